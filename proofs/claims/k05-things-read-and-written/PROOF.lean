import PyProof.Rows.All
import Wide.All
import OpenK.AllK
import Wide.FinOn
import PyProof.EqAt
import PyProof.EqKinds
import PyProof.TupleCall
import HandS.Base
import HandS.Call
import HandS.Exc
import HandS.ExcOwn
import HandS.ExcInit
import HandS.ExcField
import HandS.Codes
import HandS.Words
import HandS.HeadHook1
import HandS.Ends
import HandS.HeadEnd
import HandS.Head0
import HandS.Head1
import HandS.Head2
import HandS.HeadHook2
import HandS.Replace
import PySem.Challenge.RW_claimwise_k05_things_read_and_written
import HandS.List
import HandS.Comp
import HandS.Dict
import HandS.Iter
import HandS.Text
import HandS.TryOnly
import HandS.WordsList
import HandS.WordsDict
import HandS.WordsExc
import HandS.Defaults
import HandS.IsInst
import HandS.TupAny
import HandS.Deep
import HandS.Wide
import HandS.More
import HandS.ExcIs
import KE.KExcIs
import KE.KIsAll
import HandS.SortOrd
import HandS.SortRule
import HandS.SortInts
import HandS.Conv
import HandS.ListItems
import HandS.DictTup
import HandS.Zip
import HandS.RevTup
import HandS.Rev
import HandS.RevRange
import HandS.SetFor
import HandS.TupSets
import PyProof.SliceList
import HandS.HotCalls
import KE.GoesRaise
import KE.GoesEnumKw
import PyProof.Rows.CallKwBuiltin
import HandS.TupLe
import KE.IntTextLaws
import KE.IntTextText
import KE.KIntText
set_option Elab.async false
set_option linter.all false
set_option maxHeartbeats 4000000
set_option maxRecDepth 100000
namespace DL
open PySem PySem.Spec PyProof.Rows L2
def isListO (o : Obj) : Bool := match o.cls with
  | .type c => c == "list"
  | _ => false
def frN (g : Addr → Option Obj) (as : List Addr) : PySem.W.Frag := (He.frG g as).filter fun q => !isListO q.2
theorem frG_mem {g : Addr → Option Obj} {as : List Addr} {a : Addr} {ob : Obj} (h : (a, ob) ∈ He.frG g as) : g a = some ob := by
  unfold He.frG at h
  obtain ⟨b, _, e⟩ := List.mem_filterMap.mp h
  cases hb : g b with
  | none =>
    rw [hb] at e
    cases e
  | some u =>
    rw [hb] at e
    have eq2 : (b, u) = (a, ob) := Option.some.inj e
    injection eq2 with e3 e4
    rw [← e3, ← e4]
    exact hb
theorem lookup_mem {a : Addr} {ob : Obj} : ∀ {l : List (Addr × Obj)}, l.lookup a = some ob → (a, ob) ∈ l
  | [], h => by cases h
  | (b, u) :: r, h => by
    have hq : (match a == b with | true => some u | false => r.lookup a) = some ob := h
    cases q : (a == b) with
    | true =>
      rw [q] at hq
      have eo : u = ob := Option.some.inj hq
      rw [beq_iff_eq.mp q, eo]
      exact List.mem_cons_self
    | false =>
      rw [q] at hq
      exact List.mem_cons_of_mem _ (lookup_mem hq)
theorem frN_in {as : List Addr} {h : Heap} : (frN h.get? as).In h := fun a o e => frG_mem (List.mem_filter.mp (lookup_mem e)).1
def NoLists (K : PySem.W.Frag) : Prop := ∀ a o, K.lookup a = some o → o.cls ≠ .type "list"
theorem frN_no {g : Addr → Option Obj} {as : List Addr} : NoLists (frN g as) := fun a o e z => by
  have h := (List.mem_filter.mp (lookup_mem e)).2
  simp only at h
  unfold isListO at h
  rw [z] at h
  simp at h
def obsN (n : Nat) (fa : List He.Fa) (fn : List He.DefD) (ex : PySem.W.Frag → Bool) (g : Addr → Option Obj) : Bool × He.AlD := (ex (frN g (He.asD g n)), He.obsD fa fn (frN g (He.asD g n)))
def hookN (n : Nat) (fa : List He.Fa) (fn : List He.DefD) (ex : PySem.W.Frag → Bool) : PySem.W.Hook where
  α := Bool × He.AlD
  obs := fun s => obsN n fa fn ex s.heap.get?
  val := fun _ => (true, He.valD fn)
  says := fun _ h => ∃ K : PySem.W.Frag, K.In h ∧ NoLists K ∧ ex K = true ∧ He.SaysD fa fn K
  of := fun _ s e => ⟨_, frN_in, frN_no, congrArg Prod.fst e, congrArg Prod.snd e⟩
  keeps := fun _ _ _ ⟨K, hK, c⟩ k => ⟨K, PySem.W.Frag.In.keeps hK k, c⟩
theorem obsN_eq {n : Nat} {fa : List He.Fa} {fn : List He.DefD} {ex : PySem.W.Frag → Bool} {g : Addr → Option Obj} {s : Shared} (h : ∀ a, g a = s.heap.get? a) : obsN n fa fn ex g = (hookN n fa fn ex).obs s := by
  have e : g = s.heap.get? := funext h
  rw [e] <;> rfl
def oexB (K : PySem.W.Frag) (C : Addr) : Bool :=
  (match K.lookup C with
    | some ⟨.type "type", _, .cls cd, sl⟩ => (match cd.mro, sl.toList with
      | .ref C' :: bm, [_, _, _, _, some (.builtin n), _] => C' == C && (n == "ValueError.__new__" && (!cd.hasDel && (cd.hasDict && PySem.HandSPX.refsVE bm)))
      | _, _ => false)
    | _ => false) &&
  (decide (PySem.W.findIn K (.ref C) "__setattr__" = some (some (.builtin "object.__setattr__"))) && (decide (PySem.W.subIn K (.ref C) (.type "BaseException") = some true) && (decide (PySem.W.typeIn K (.ref C) = some (.type "type")) && PySem.W.keepIn K (.ref C))))
def excCB (K : PySem.W.Frag) (D : Addr) : Bool :=
  decide (PySem.W.findIn K (.ref D) "__class__" = some (some (.builtin "object.__class__"))) && (decide (PySem.W.specialIn K (.builtin "object.__class__") "__get__" = some (some (.builtin "getset_descriptor.__get__"))) &&
    (decide (PySem.W.takesIn K (.builtin "object.__class__") = some true) && decide (PySem.W.mroIn K D (.type "object") = some true)))
def oclsB (K : PySem.W.Frag) (x : Str) (ns : List Str) : Bool :=
  oexB K (He.ga K x) && (decide (PySem.W.findIn K (.ref (He.ga K x)) "__init__" = some (some (.ref (He.ma K (He.ga K x) "__init__")))) && (decide (PySem.W.typeIn K (.ref (He.ma K (He.ga K x) "__init__")) = some (.type "function")) &&
    ((ns.all fun f => decide (PySem.W.findIn K (.ref (He.ga K x)) f = some none)) && (xfB K (He.ga K x) && excCB K (He.ga K x)))))
def SeenAll {α : Type} (E : OsState → Option PySem.W.SharedT) (f : PySem.W.SharedT → α) (v : α) : Prop := ∀ os, (E os).map f = some v
theorem seen_three {α β γ : Type} {E : OsState → Option PySem.W.SharedT} {f : PySem.W.SharedT → α} {g : PySem.W.SharedT → β} {k : PySem.W.SharedT → γ} {v : α} {u : β} {t : γ} (h1 : SeenAll E (fun s => (f s, g s)) (v, u)) (h2 : SeenAll E k t) : SeenAll E (fun s => (f s, g s, k s)) (v, u, t) := fun os => by
  have a := h1 os
  have b := h2 os
  cases e : E os with
  | none => rw [e] at a; cases a
  | some s =>
    rw [e] at a b
    have a : (f s, g s) = (v, u) := Option.some.inj a
    have b : k s = t := Option.some.inj b
    show some (f s, g s, k s) = _
    rw [← b]
    injection a with a1 a2
    rw [a1, a2]
end DL
namespace K05
open PySem PySem.Spec PyProof.Rows L2 DL
noncomputable section
def kw_KEPT : List Str := [PySem.Str.ofString "a", PySem.Str.ofString "an", PySem.Str.ofString "the", PySem.Str.ofString "said", PySem.Str.ofString "claim", PySem.Str.ofString "on", PySem.Str.ofString "or", PySem.Str.ofString "then", PySem.Str.ofString "from", PySem.Str.ofString "to", PySem.Str.ofString "of", PySem.Str.ofString "at", PySem.Str.ofString "least", PySem.Str.ofString "most", PySem.Str.ofString "just", PySem.Str.ofString "is"]
end
end K05
namespace K05H
open PySem PySem.Spec PyProof.Rows L2 DL K05
open PySem.W PySem.Calls
def top (i : Nat) : Stmt := PySem.Challenge.pw_claimwise_k05_things_read_and_written.main.body.getD i (.Pass ⟨0, 0, 0, 0⟩)
abbrev s_signs_among : Stmt := top 13
abbrev s_is_word : Stmt := top 14
abbrev s_number_in : Stmt := top 15
abbrev s_word_rows : Stmt := top 16
abbrev s_is_kind : Stmt := top 18
abbrev s_take_part : Stmt := top 24
abbrev s_take_size : Stmt := top 25
abbrev s_look_part : Stmt := top 26
abbrev s_take_join : Stmt := top 27
abbrev s_take_step : Stmt := top 28
abbrev s_read_thing : Stmt := top 29
abbrev s_thing_rows : Stmt := top 30
abbrev s_write_thing : Stmt := top 31
abbrev s_law_mix : Stmt := top 33
abbrev s_law_salt : Stmt := top 34
abbrev s_law_name : Stmt := top 35
abbrev s_law_kinds : Stmt := top 36
abbrev s_law_text : Stmt := top 37
abbrev s_law_number : Stmt := top 38
abbrev s_law_parts : Stmt := top 39
abbrev s_law_joins : Stmt := top 40
abbrev s_law_steps : Stmt := top 41
abbrev s_law_thing_rows : Stmt := top 42
abbrev s_law_mixed : Stmt := top 43
abbrev s_law_written : Stmt := top 44
abbrev s_law_due : Stmt := top 45
abbrev s_law_formed : Stmt := top 46
abbrev s_law : Stmt := top 47
abbrev i_BadRow : Stmt := (C8.clsBody (top 2)).getD 0 (.Pass ⟨0, 0, 0, 0⟩)
abbrev i_NoKind : Stmt := (C8.clsBody (top 5)).getD 0 (.Pass ⟨0, 0, 0, 0⟩)
abbrev i_NoPart : Stmt := (C8.clsBody (top 4)).getD 0 (.Pass ⟨0, 0, 0, 0⟩)
abbrev i_TooBig : Stmt := (C8.clsBody (top 6)).getD 0 (.Pass ⟨0, 0, 0, 0⟩)
abbrev i_Twice : Stmt := (C8.clsBody (top 3)).getD 0 (.Pass ⟨0, 0, 0, 0⟩)
def fn0 : List He.DefD := [⟨("signs_among", none), "signs_among", "signs_among", defArgs s_signs_among, defBody s_signs_among, defScope s_signs_among, [], []⟩, ⟨("is_word", none), "is_word", "is_word", defArgs s_is_word, defBody s_is_word, defScope s_is_word, [], []⟩, ⟨("number_in", none), "number_in", "number_in", defArgs s_number_in, defBody s_number_in, defScope s_number_in, [], []⟩, ⟨("word_rows", none), "word_rows", "word_rows", defArgs s_word_rows, defBody s_word_rows, defScope s_word_rows, [], []⟩, ⟨("is_kind", none), "is_kind", "is_kind", defArgs s_is_kind, defBody s_is_kind, defScope s_is_kind, [], []⟩, ⟨("take_part", none), "take_part", "take_part", defArgs s_take_part, defBody s_take_part, defScope s_take_part, [], []⟩, ⟨("take_size", none), "take_size", "take_size", defArgs s_take_size, defBody s_take_size, defScope s_take_size, [], []⟩, ⟨("look_part", none), "look_part", "look_part", defArgs s_look_part, defBody s_look_part, defScope s_look_part, [], []⟩, ⟨("take_join", none), "take_join", "take_join", defArgs s_take_join, defBody s_take_join, defScope s_take_join, [], []⟩, ⟨("take_step", none), "take_step", "take_step", defArgs s_take_step, defBody s_take_step, defScope s_take_step, [], []⟩, ⟨("read_thing", none), "read_thing", "read_thing", defArgs s_read_thing, defBody s_read_thing, defScope s_read_thing, [], []⟩, ⟨("thing_rows", none), "thing_rows", "thing_rows", defArgs s_thing_rows, defBody s_thing_rows, defScope s_thing_rows, [], []⟩]
def fn1 : List He.DefD := [⟨("write_thing", none), "write_thing", "write_thing", defArgs s_write_thing, defBody s_write_thing, defScope s_write_thing, [], []⟩, ⟨("_law_mix", none), "_law_mix", "_law_mix", defArgs s_law_mix, defBody s_law_mix, defScope s_law_mix, [], []⟩, ⟨("_law_salt", none), "_law_salt", "_law_salt", defArgs s_law_salt, defBody s_law_salt, defScope s_law_salt, [], []⟩, ⟨("_law_name", none), "_law_name", "_law_name", defArgs s_law_name, defBody s_law_name, defScope s_law_name, [], []⟩, ⟨("_law_kinds", none), "_law_kinds", "_law_kinds", defArgs s_law_kinds, defBody s_law_kinds, defScope s_law_kinds, [], []⟩, ⟨("_law_text", none), "_law_text", "_law_text", defArgs s_law_text, defBody s_law_text, defScope s_law_text, [], []⟩, ⟨("_law_number", none), "_law_number", "_law_number", defArgs s_law_number, defBody s_law_number, defScope s_law_number, [], []⟩, ⟨("_law_parts", none), "_law_parts", "_law_parts", defArgs s_law_parts, defBody s_law_parts, defScope s_law_parts, [], []⟩, ⟨("_law_joins", none), "_law_joins", "_law_joins", defArgs s_law_joins, defBody s_law_joins, defScope s_law_joins, [], []⟩, ⟨("_law_steps", none), "_law_steps", "_law_steps", defArgs s_law_steps, defBody s_law_steps, defScope s_law_steps, [], []⟩, ⟨("_law_thing_rows", none), "_law_thing_rows", "_law_thing_rows", defArgs s_law_thing_rows, defBody s_law_thing_rows, defScope s_law_thing_rows, [], []⟩, ⟨("_law_mixed", none), "_law_mixed", "_law_mixed", defArgs s_law_mixed, defBody s_law_mixed, defScope s_law_mixed, [], []⟩]
def fn2 : List He.DefD := [⟨("_law_written", none), "_law_written", "_law_written", defArgs s_law_written, defBody s_law_written, defScope s_law_written, [], []⟩, ⟨("_law_due", none), "_law_due", "_law_due", defArgs s_law_due, defBody s_law_due, defScope s_law_due, [], []⟩, ⟨("_law_formed", none), "_law_formed", "_law_formed", defArgs s_law_formed, defBody s_law_formed, defScope s_law_formed, [], []⟩, ⟨("law", none), "law", "law", defArgs s_law, defBody s_law, defScope s_law, [], []⟩]
def fn3 : List He.DefD := [⟨("BadRow", some "__init__"), "__init__", "BadRow.__init__", defArgs i_BadRow, defBody i_BadRow, defScope i_BadRow, [], []⟩, ⟨("NoKind", some "__init__"), "__init__", "NoKind.__init__", defArgs i_NoKind, defBody i_NoKind, defScope i_NoKind, [], []⟩, ⟨("NoPart", some "__init__"), "__init__", "NoPart.__init__", defArgs i_NoPart, defBody i_NoPart, defScope i_NoPart, [], []⟩, ⟨("TooBig", some "__init__"), "__init__", "TooBig.__init__", defArgs i_TooBig, defBody i_TooBig, defScope i_TooBig, [], []⟩, ⟨("Twice", some "__init__"), "__init__", "Twice.__init__", defArgs i_Twice, defBody i_Twice, defScope i_Twice, [], []⟩]
def gn0 : List He.DefD := fn0 ++ fn1 ++ fn2 ++ fn3
def fnA : List He.DefD := gn0
def fa0 : List He.Fa := [.glo "signs_among", .glo "is_word", .glo "number_in", .glo "word_rows", .glo "is_kind", .glo "take_part", .glo "take_size", .glo "look_part", .glo "take_join", .glo "take_step", .glo "read_thing", .glo "thing_rows", .glo "write_thing", .glo "_law_mix", .glo "_law_salt", .glo "_law_name", .glo "_law_kinds", .glo "_law_text", .glo "_law_number", .glo "_law_parts", .glo "_law_joins", .glo "_law_steps", .glo "_law_thing_rows", .glo "_law_mixed", .glo "_law_written", .glo "_law_due", .glo "_law_formed", .glo "law", .free "all", .free "enumerate"]
def fa1 : List He.Fa := [.free "int", .free "isinstance", .free "len", .free "list", .free "max", .free "range", .free "sorted", .free "str", .free "sum", .free "tuple", .str "FIGURES" "0123456789", .glo "KEPT", .int "MOST_FIGURES" 30, .int "MOST_JOINS" 16, .int "MOST_PARTS" 8, .int "MOST_SIGNS" 8, .int "MOST_SIZES" 4, .int "MOST_STEPS" 8, .str "SMALL" "abcdefghijklmnopqrstuvwxyz", .glo "BadRow", .glo "NoKind", .glo "NoPart", .glo "TooBig", .glo "Twice"]
def ga0 : List He.Fa := fa0 ++ fa1
def faA : List He.Fa := ga0
def exA (K : PySem.W.Frag) : Bool := He.tupB K "KEPT" (kw_KEPT.map He.Dv.str) && oclsB K "BadRow" ["row"] && oclsB K "NoKind" ["claim", "row"] && oclsB K "NoPart" ["row"] && oclsB K "TooBig" ["claim", "row"] && oclsB K "Twice" ["row"]
abbrev RowL : PySem.W.OpenRow := PySem.W.OpenLaw.row PySem.Challenge.rw_claimwise_k05_things_read_and_written
abbrev hk : PySem.W.Hook := hookN 4 faA fnA exA
def ob (s : PySem.W.SharedT) : Bool × He.AlD := obsN 4 faA fnA exA (HandSHeadRun.getT s)
theorem ob_eq (s : PySem.W.SharedT) : ob s = hk.obs s.abs := obsN_eq (HandSHeadRun.getT_eq s)
def nm0 : List PySem.Str := ["ClaimError", "BadRow", "Twice", "NoPart", "NoKind", "TooBig", "SMALL", "FIGURES", "KEPT", "MOST_SIGNS", "MOST_FIGURES", "signs_among", "is_word", "number_in", "word_rows", "is_kind", "MOST_PARTS", "MOST_SIZES", "MOST_JOINS", "MOST_STEPS", "take_part", "take_size", "look_part", "take_join", "take_step", "read_thing", "thing_rows", "write_thing", "_law_mix", "_law_salt"]
def nm1 : List PySem.Str := ["_law_name", "_law_kinds", "_law_text", "_law_number", "_law_parts", "_law_joins", "_law_steps", "_law_thing_rows", "_law_mixed", "_law_written", "_law_due", "_law_formed"]
def nmA : List PySem.Str := nm0 ++ nm1
abbrev qv : Program := PySem.W.view RowL.prog [47]
noncomputable abbrev topE (w : World) : OsState → Option PySem.W.SharedT := fun os => HandSHeadRun.endF (HandSHeadRun.stepQ (HandSHeadRun.denQ HandSHeadRun.tabQ) RowL.prog w) 12000 RowL.prog w os
theorem runS (w : World) : SeenAll (topE w) (fun s => (HandSHeadRun.looksF RowL.prog (boot_heap w.params) s.abs, HandSHeadRun.seenQ qv nmA (importedModules RowL.prog.main.body) (fun s => xlAt qv [] s && recOk RowL.toRowW.records s) s.abs)) (true, openGood qv nmA) := by
  intro os
  kernel_rfl
theorem runO0 (w : World) : SeenAll (topE w) (fun s => obsN 4 ga0 gn0 exA (HandSHeadRun.getT s)) (true, He.valD gn0) := by
  intro os
  kernel_rfl
theorem run (w : World) : HandSHeadRun.RunEq RowL qv hk ob 12000 nmA w := seen_three (runS w) (runO0 w)
end K05H
namespace DL
open PySem PySem.Spec PyProof.Rows L2
abbrev PD := PyData
structure Ec where
  cls : Str
  fs : List (Str × V)
inductive R (α : Type) where
  | ok (a : α)
  | exc (c : Ec)
  | bad
def R.bind {α β : Type} : R α → (α → R β) → R β
  | .ok a, f => f a
  | .exc c, _ => .exc c
  | .bad, _ => .bad
def tupO (o : HO) : Prop := ((∃ xs, o = .tup xs) ∨ ∃ xs, o = .xd xs) ∨ ∃ ob xs, o = .frz ob (.tup xs)
structure Ext (F H F' H' : Hp) : Prop where
  f : Same F F'
  g : Same F' H'
  h : Same H H'
  n : ∀ p, F' p ≠ none → F p ≠ none ∨ H p = none ∨ ∃ o, H p = some o ∧ tupO o
theorem Ext.refl {F H : Hp} (s : Same F H) : Ext F H F H := ⟨Same.refl F, s, Same.refl H, fun _ h => .inl h⟩
theorem Ext.trans {F H F1 H1 F2 H2 : Hp} (a : Ext F H F1 H1) (b : Ext F1 H1 F2 H2) : Ext F H F2 H2 := by
  refine ⟨a.f.trans b.f, b.g, a.h.trans b.h, fun p hp => ?_⟩
  rcases b.n p hp with q | q | ⟨o, q, t⟩
  · exact a.n p q
  · exact .inr (.inl (a.h.free q))
  · cases e : H p with
    | none => exact .inr (.inl rfl)
    | some u =>
      have := a.h p u e
      rw [q] at this
      cases this
      exact .inr (.inr ⟨_, rfl, t⟩)
theorem Ext.base {F0 H0 F H F' H' : Hp} (a : Ext F0 H0 F H) (b : Ext F H0 F' H') : Ext F0 H0 F' H' :=
  ⟨a.f.trans b.f, b.g, b.h, fun p hp => (b.n p hp).elim (fun q => a.n p q) .inr⟩
theorem Ext.keep {F H F' H' : Hp} (e : Ext F H F' H') {p : Addr} {o : HO} (hf : F p = none) (ho : H p = some o) (hn : ¬ tupO o) : F' p = none := by
  cases q : F' p with
  | none => rfl
  | some u =>
    rcases e.n p (by rw [q]; exact Option.some_ne_none u) with z | z | ⟨o', z, t⟩
    · exact absurd hf z
    · rw [ho] at z; cases z
    · rw [ho] at z; cases z; exact absurd t hn
theorem nt_lst {xs : List V} : ¬ tupO (.lst xs) := by
  rintro ((⟨_, h⟩ | ⟨_, h⟩) | ⟨_, _, h⟩) <;> cases h
theorem nt_dK {xs : List (Key × V)} : ¬ tupO (.dK xs) := by
  rintro ((⟨_, h⟩ | ⟨_, h⟩) | ⟨_, _, h⟩) <;> cases h
theorem nt_dT {xs : List (List Key × V)} : ¬ tupO (.dT xs) := by
  rintro ((⟨_, h⟩ | ⟨_, h⟩) | ⟨_, _, h⟩) <;> cases h
theorem nt_ins {C dx : Addr} {xs : List (Str × V)} : ¬ tupO (.ins C dx xs) := by
  rintro ((⟨_, h⟩ | ⟨_, h⟩) | ⟨_, _, h⟩) <;> cases h
theorem nt_own {a : Addr} : ¬ tupO (.own a) := by
  rintro ((⟨_, h⟩ | ⟨_, h⟩) | ⟨_, _, h⟩) <;> cases h
theorem nt_frzd {o : Obj} {xs : List (Key × V)} : ¬ tupO (.frz o (.dK xs)) := by
  rintro ((⟨_, h⟩ | ⟨_, h⟩) | ⟨_, _, h⟩) <;> cases h
theorem Ext.new {F H : Hp} {p : Addr} {o : HO} (s : Same F H) (h : H p = none) : Ext F H (upd F p o) (upd H p o) := by
  have hf : F p = none := s.free h
  refine ⟨fun b u e => ?_, fun b u e => ?_, fun b u e => ?_, fun b e => ?_⟩
  · rw [upd_ne (ne_of_none e hf)]; exact e
  · by_cases hb : b = p
    · subst hb; rw [upd_same] at e ⊢; exact e
    · rw [upd_ne hb] at e ⊢; exact s b u e
  · rw [upd_ne (ne_of_none e h)]; exact e
  · by_cases hb : b = p
    · subst hb; exact .inr (.inl h)
    · rw [upd_ne hb] at e; exact .inl e
theorem Ext.own {F H : Hp} {p : Addr} {o : HO} (s : Same F H) (h : H p = none) : Ext F H F (upd H p o) := by
  have hf : F p = none := s.free h
  refine ⟨Same.refl F, fun b u e => ?_, fun b u e => ?_, fun b e => .inl e⟩
  · rw [upd_ne (ne_of_none e hf)]; exact s b u e
  · rw [upd_ne (ne_of_none e h)]; exact e
theorem Ext.heap {F H H' : Hp} (s : Same F H) (h : Same H H') : Ext F H F H' := ⟨Same.refl F, s.trans h, h, fun _ e => .inl e⟩
theorem seqL {K : PySem.W.Frag} {H H' : Hp} {a : Addr} {xs : List V} (e : Same H H') (h : SqL K H a xs) : SqL K H' a xs := e.seq h
theorem seqT {K : PySem.W.Frag} {H H' : Hp} {a : Addr} {xs : List V} (e : Same H H') (h : SqT K H a xs) : SqT K H' a xs := by
  rcases h with (h | ⟨o, h⟩) | h
  · exact .inl (.inl (e _ _ h))
  · exact .inl (.inr ⟨o, e _ _ h⟩)
  · exact .inr h
theorem rdM {H H' : Hp} {a : Addr} {u : HO} (e : Same H H') (h : Rd H a u) : Rd H' a u := by
  rcases h with h | ⟨o, h⟩
  · exact .inl (e _ _ h)
  · exact .inr ⟨o, e _ _ h⟩
def excO (cls : Value) (d : Option Addr) (a : Addr) : HO := .ext fun h => ∃ (oe : Obj) (vs : Array Value), h.get? a = some oe ∧ Zc cls d oe ∧ oe.data = .fields vs
def immV : V → Option PyData
  | .int i => some (.int i)
  | .str x => some (.str x)
  | .bl b => some (.bool b)
  | .non => some .none
  | _ => none
def immFs : List (Str × V) → Option (List (PyData × PyData))
  | [] => some []
  | (f, v) :: r => match immV v, immFs r with
    | some d, some l => some ((.str f, d) :: l)
    | _, _ => none
def encE (cls : Str) (gs : List (PyData × PyData)) : PyData := .dict ((.str cls, .none) :: gs)
def encD (kvs : List (PyData × PyData)) : PyData := .dict ((.none, .none) :: kvs)
def keyD : Key → PyData
  | .inl i => .int i
  | .inr s => .str s
mutual
inductive Dp (K : PySem.W.Frag) (F : Hp) : V → PyData → Prop
  | non : Dp K F .non .none
  | bl (b : Bool) : Dp K F (.bl b) (.bool b)
  | int (i : Int) : Dp K F (.int i) (.int i)
  | str (x : Str) : Dp K F (.str x) (.str x)
  | lst {a : Addr} {xs : List V} {ds : List PyData} : Rd F a (.lst xs) → DpAll K F xs ds → Dp K F (.ref a) (.list ds)
  | tup {a : Addr} {xs : List V} {ds : List PyData} : F a = some (.tup xs) → DpAll K F xs ds → Dp K F (.ref a) (.tuple ds)
  | exc {a : Addr} {cls : Str} {d : Option Addr} {fs : List (Str × V)} {gs : List (PyData × PyData)} : F a = some (excO (.ref (He.ga K cls)) d a) → ((d = none ∧ fs = []) ∨ ∃ dd, d = some dd ∧ F dd = some (.xd fs)) → immFs fs = some gs → Dp K F (.ref a) (encE cls gs)
  | dct {a : Addr} {ks : List Key} {xs : List V} {ds : List PyData} : F a = some (.dK (ks.zip xs)) → ks.length = xs.length → DpAll K F xs ds → Dp K F (.ref a) (encD ((ks.map keyD).zip ds))
inductive DpAll (K : PySem.W.Frag) (F : Hp) : List V → List PyData → Prop
  | nil : DpAll K F [] []
  | cons {v : V} {vs : List V} {d : PyData} {ds : List PyData} : Dp K F v d → DpAll K F vs ds → DpAll K F (v :: vs) (d :: ds)
end
mutual
theorem Dp.mono {K : PySem.W.Frag} {H H' : Hp} (e : Same H H') : ∀ {v : V} {d : PyData}, Dp K H v d → Dp K H' v d
  | _, _, .non => .non
  | _, _, .bl b => .bl b
  | _, _, .int i => .int i
  | _, _, .str x => .str x
  | _, _, .lst s a => .lst (rdM e s) (DpAll.mono e a)
  | _, _, .tup s a => .tup (e _ _ s) (DpAll.mono e a)
  | _, _, .exc s r g => .exc (e _ _ s) (r.imp id fun ⟨dd, h, k⟩ => ⟨dd, h, e _ _ k⟩) g
  | _, _, .dct s l a => .dct (e _ _ s) l (DpAll.mono e a)
theorem DpAll.mono {K : PySem.W.Frag} {H H' : Hp} (e : Same H H') : ∀ {vs : List V} {ds : List PyData}, DpAll K H vs ds → DpAll K H' vs ds
  | _, _, .nil => .nil
  | _, _, .cons h t => .cons (Dp.mono e h) (DpAll.mono e t)
end
mutual
theorem Dp.l2 {K : PySem.W.Frag} {H : Hp} : ∀ {v : V} {d : PyData}, Dp K H v d → d.canLay0 = true → L2.Dp K H v d
  | _, _, .non, _ => .non
  | _, _, .bl b, _ => .bl b
  | _, _, .int i, _ => .int i
  | _, _, .str x, _ => .str x
  | _, _, .lst s a, c => .lst (.inl s) (DpAll.l2 a (by simpa [PyData.canLay0] using c))
  | _, _, .tup s a, c => .tup (SqT.of s) (DpAll.l2 a (by simpa [PyData.canLay0] using c))
  | _, _, .exc _ _ _, c => by simp [encE, PyData.canLay0] at c
  | _, _, .dct _ _ _, c => by simp [encD, PyData.canLay0] at c
theorem DpAll.l2 {K : PySem.W.Frag} {H : Hp} : ∀ {vs : List V} {ds : List PyData}, DpAll K H vs ds → PyData.canLayAll0 ds = true → L2.DpAll K H vs ds
  | _, _, .nil, _ => .nil
  | _, _, .cons (d := d) (ds := ds) h t, c => by
    have c' : d.canLay0 = true ∧ PyData.canLayAll0 ds = true := by simpa [PyData.canLayAll0] using c
    exact .cons (Dp.l2 h c'.1) (DpAll.l2 t c'.2)
end
section
variable {K : PySem.W.Frag} {F H : Hp}
theorem DpAll.length : ∀ {vs : List V} {ds : List PyData}, DpAll K H vs ds → vs.length = ds.length
  | _, _, .nil => rfl
  | _, _, .cons _ t => by rw [List.length_cons, List.length_cons, t.length]
theorem DpAll.append : ∀ {vs us : List V} {ds es : List PyData}, DpAll K H vs ds → DpAll K H us es → DpAll K H (vs ++ us) (ds ++ es)
  | _, _, _, _, .nil, u => u
  | _, _, _, _, .cons h t, u => .cons h (DpAll.append t u)
theorem DpAll.get' : ∀ {vs : List V} {ds : List PyData} {i : Nat} {d : PyData}, DpAll K H vs ds → ds[i]? = some d → ∃ v, vs[i]? = some v ∧ Dp K H v d
  | _, _, _, _, .nil, e => by simp at e
  | _, _, 0, _, .cons h _, e => by simp at e; subst e; exact ⟨_, rfl, h⟩
  | _, _, i + 1, d, .cons _ t, e => by
    obtain ⟨v, h1, h2⟩ := DpAll.get' (i := i) (d := d) t (by simpa using e)
    exact ⟨v, by simpa using h1, h2⟩
theorem DpAll.set : ∀ {vs : List V} {ds : List PyData} {v : V} {d : PyData} (i : Nat), DpAll K H vs ds → Dp K H v d → DpAll K H (vs.set i v) (ds.set i d)
  | _, _, _, _, _, .nil, _ => .nil
  | _, _, _, _, 0, .cons _ t, h => .cons h t
  | _, _, _, _, i + 1, .cons q t, h => .cons q (DpAll.set i t h)
theorem DpAll.take : ∀ {vs : List V} {ds : List PyData} (n : Nat), DpAll K H vs ds → DpAll K H (vs.take n) (ds.take n)
  | _, _, 0, _ => .nil
  | _, _, _ + 1, .nil => .nil
  | _, _, n + 1, .cons r t => .cons r (DpAll.take n t)
theorem DpAll.drop : ∀ {vs : List V} {ds : List PyData} (n : Nat), DpAll K H vs ds → DpAll K H (vs.drop n) (ds.drop n)
  | _, _, 0, r => r
  | _, _, _ + 1, .nil => .nil
  | _, _, n + 1, .cons _ t => DpAll.drop n t
theorem DpAll.ints : ∀ {ns : List Int}, DpAll K H (ns.map V.int) (ns.map PyData.int)
  | [] => .nil
  | _ :: _ => .cons (.int _) DpAll.ints
theorem DpAll.of_ints : ∀ {vs : List V} {ns : List Int}, DpAll K H vs (ns.map PyData.int) → vs = ns.map V.int
  | _, [], h => by cases h; rfl
  | _, n :: ns, h => by
    cases h with
    | cons a b => cases a; rw [DpAll.of_ints b]; rfl
theorem DpAll.of_strs : ∀ {vs : List V} {ns : List Str}, DpAll K H vs (ns.map PyData.str) → vs = ns.map V.str
  | _, [], h => by cases h; rfl
  | _, n :: ns, h => by
    cases h with
    | cons a b => cases a; rw [DpAll.of_strs b]; rfl
theorem DpAll.strs : ∀ {ns : List Str}, DpAll K H (ns.map V.str) (ns.map PyData.str)
  | [] => .nil
  | _ :: _ => .cons (.str _) DpAll.strs
theorem DpAll.of_bls : ∀ {vs : List V} {ns : List Bool}, DpAll K H vs (ns.map PyData.bool) → vs = ns.map V.bl
  | _, [], h => by cases h; rfl
  | _, n :: ns, h => by
    cases h with
    | cons a b => cases a; rw [DpAll.of_bls b]; rfl
end
inductive KvR (K : PySem.W.Frag) (F : Hp) {κ : Type} (kd : κ → PD) : List (κ × V) → List (PD × PD) → Prop
  | nil : KvR K F kd [] []
  | cons {k : κ} {v : V} {d : PD} {es : List (κ × V)} {kvs : List (PD × PD)} : Dp K F v d → KvR K F kd es kvs → KvR K F kd ((k, v) :: es) ((kd k, d) :: kvs)
theorem KvR.zip {K : PySem.W.Frag} {F : Hp} {κ : Type} {kd : κ → PD} : ∀ {es : List (κ × V)} {kvs : List (PD × PD)}, KvR K F kd es kvs → ∃ (ks : List κ) (vs : List V) (ds : List PD), es = ks.zip vs ∧ ks.length = vs.length ∧ kvs = (ks.map kd).zip ds ∧ DpAll K F vs ds
  | _, _, .nil => ⟨[], [], [], rfl, rfl, rfl, .nil⟩
  | _, _, .cons (k := k) (v := v) (d := d) h t => by
    obtain ⟨ks, vs, ds, rfl, e, rfl, a⟩ := KvR.zip t
    exact ⟨k :: ks, v :: vs, d :: ds, rfl, by simp [e], rfl, .cons h a⟩
theorem KvR.of_zip {K : PySem.W.Frag} {F : Hp} {κ : Type} {kd : κ → PD} : ∀ {ks : List κ} {vs : List V} {ds : List PD}, ks.length = vs.length → DpAll K F vs ds → KvR K F kd (ks.zip vs) ((ks.map kd).zip ds)
  | [], _, _, e, .nil => .nil
  | _ :: _, _, _, e, .cons h t => .cons h (KvR.of_zip (by simpa using e) t)
  | [], _, _, e, .cons _ _ => by simp at e
  | _ :: _, _, _, e, .nil => by simp at e
theorem KvR.mono {K : PySem.W.Frag} {F F' : Hp} {κ : Type} {kd : κ → PD} (e : Same F F') : ∀ {es : List (κ × V)} {kvs : List (PD × PD)}, KvR K F kd es kvs → KvR K F' kd es kvs
  | _, _, .nil => .nil
  | _, _, .cons h t => .cons (h.mono e) (t.mono e)
def DicAt (K : PySem.W.Frag) (F H : Hp) (p : Addr) (kvs : List (PD × PD)) : Prop :=
  ∃ es, H p = some (.dK es) ∧ KvR K F keyD es kvs
def OwnAt (K : PySem.W.Frag) (F H : Hp) (p : Addr) : PD → Prop
  | .list ds => ∃ vs, H p = some (.lst vs) ∧ DpAll K F vs ds
  | .dict kvs => DicAt K F H p kvs
  | _ => False
theorem OwnAt.mono {K : PySem.W.Frag} {F H F' H' : Hp} {p : Addr} {d : PD} (e : Same F F') (g : ∀ o, H p = some o → H' p = some o) (h : OwnAt K F H p d) : OwnAt K F' H' p d := by
  cases d with
  | list ds => obtain ⟨vs, a, b⟩ := h; exact ⟨vs, g _ a, b.mono e⟩
  | dict kvs =>
    obtain ⟨es, a, b⟩ := h
    exact ⟨es, g _ a, b.mono e⟩
  | _ => exact h.elim
theorem OwnAt.nt {K : PySem.W.Frag} {F H : Hp} {p : Addr} {d : PD} (h : OwnAt K F H p d) : ∃ o, H p = Option.some o ∧ ¬ tupO o := by
  cases d with
  | list ds => obtain ⟨vs, a, b⟩ := h; exact ⟨_, a, nt_lst⟩
  | dict kvs =>
    obtain ⟨es, a, b⟩ := h
    exact ⟨_, a, nt_dK⟩
  | _ => exact h.elim
theorem OwnAt.some {K : PySem.W.Frag} {F H : Hp} {p : Addr} {d : PD} (h : OwnAt K F H p d) : ∃ o, H p = some o := by
  cases d with
  | list ds => obtain ⟨vs, a, b⟩ := h; exact ⟨_, a⟩
  | dict kvs =>
    obtain ⟨es, a, b⟩ := h
    exact ⟨_, a⟩
  | _ => exact h.elim
def Rp (K : PySem.W.Frag) (F H : Hp) (v : V) (d : PD) : Prop := Dp K F v d ∨ ∃ p, v = .ref p ∧ OwnAt K F H p d
theorem Rp.ext {K : PySem.W.Frag} {F H F' H' : Hp} {v : V} {d : PD} (e : Same F F') (g : Same H H') : Rp K F H v d → Rp K F' H' v d
  | .inl h => .inl (h.mono e)
  | .inr ⟨p, a, h⟩ => .inr ⟨p, a, h.mono e fun o q => g p o q⟩
theorem Rp.dp {K : PySem.W.Frag} {F H : Hp} {v : V} {d : PD} (s : Same F H) (h : Rp K F H v d) (hd : ∀ kvs, d ≠ .dict kvs) : Dp K H v d := by
  rcases h with h | ⟨p, rfl, h⟩
  · exact h.mono s
  · cases d with
    | list ds => obtain ⟨vs, a, b⟩ := h; exact .lst (.inl a) (b.mono s)
    | dict kvs => exact absurd rfl (hd kvs)
    | _ => exact h.elim
theorem Rp.list {K : PySem.W.Frag} {F H : Hp} {v : V} {ds : List PD} (s : Same F H) (h : Rp K F H v (.list ds)) : ∃ a vs, v = .ref a ∧ Rd H a (.lst vs) ∧ DpAll K F vs ds := by
  rcases h with h | ⟨p, rfl, vs, a, b⟩
  · cases h with
    | lst q r => exact ⟨_, _, rfl, rdM s q, r⟩
  · exact ⟨p, vs, rfl, .inl a, b⟩
theorem Rp.tuple {K : PySem.W.Frag} {F H : Hp} {v : V} {ds : List PD} (s : Same F H) (h : Rp K F H v (.tuple ds)) : ∃ a vs, v = .ref a ∧ SqT K H a vs ∧ DpAll K F vs ds := by
  rcases h with h | ⟨p, rfl, h⟩
  · cases h with
    | tup q r => exact ⟨_, _, rfl, SqT.of (s _ _ q), r⟩
  · exact h.elim
theorem Rp.int {K : PySem.W.Frag} {F H : Hp} {v : V} {i : Int} (h : Rp K F H v (.int i)) : v = .int i := by
  rcases h with h | ⟨p, rfl, h⟩
  · cases h; rfl
  · exact h.elim
theorem Rp.str {K : PySem.W.Frag} {F H : Hp} {v : V} {i : Str} (h : Rp K F H v (.str i)) : v = .str i := by
  rcases h with h | ⟨p, rfl, h⟩
  · cases h; rfl
  · exact h.elim
theorem Rp.bool {K : PySem.W.Frag} {F H : Hp} {v : V} {i : Bool} (h : Rp K F H v (.bool i)) : v = .bl i := by
  rcases h with h | ⟨p, rfl, h⟩
  · cases h; rfl
  · exact h.elim
theorem Rp.none {K : PySem.W.Frag} {F H : Hp} {v : V} (h : Rp K F H v .none) : v = .non := by
  rcases h with h | ⟨p, rfl, h⟩
  · cases h; rfl
  · exact h.elim
inductive RpAll (K : PySem.W.Frag) (F H : Hp) : List V → List PD → Prop
  | nil : RpAll K F H [] []
  | cons {v : V} {vs : List V} {d : PD} {ds : List PD} : Rp K F H v d → RpAll K F H vs ds → RpAll K F H (v :: vs) (d :: ds)
theorem RpAll.length {K : PySem.W.Frag} {F H : Hp} : ∀ {vs : List V} {ds : List PD}, RpAll K F H vs ds → vs.length = ds.length
  | _, _, .nil => rfl
  | _, _, .cons _ t => by rw [List.length_cons, List.length_cons, t.length]
inductive Tv where
  | fr (d : PD)
  | own (x : PD)
  | dT (kvs : List (List Key × PD))
  | lst (ts : List Tv)
  | tup (ts : List Tv)
  | obj (c : Str) (ns : List Str) (ts : List Tv)
  | dct (ks : List Key) (ts : List Tv)
  | any
def KvT (K : PySem.W.Frag) (F : Hp) : List (List Key × V) → List (List Key × PD) → Prop := Paired fun p q => p.1 = q.1 ∧ Dp K F p.2 q.2
theorem KvT.mono {K : PySem.W.Frag} {F F' : Hp} (e : Same F F') {es : List (List Key × V)} {kvs : List (List Key × PD)} (h : KvT K F es kvs) : KvT K F' es kvs := by
  unfold KvT at h ⊢
  induction h with
  | nil => exact .nil
  | cons a _ ih => exact .cons ⟨a.1, a.2.mono e⟩ ih
mutual
inductive TvAt (K : PySem.W.Frag) (F H : Hp) : List Addr → V → Tv → Prop
  | fr {v : V} {d : PD} : Dp K F v d → TvAt K F H [] v (.fr d)
  | own {p : Addr} {x : PD} : OwnAt K F H p x → TvAt K F H [p] (.ref p) (.own x)
  | dT {p : Addr} {es : List (List Key × V)} {kvs : List (List Key × PD)} : H p = some (.dT es) → KvT K F es kvs → TvAt K F H [p] (.ref p) (.dT kvs)
  | lst {p : Addr} {vs : List V} {fp : List Addr} {ts : List Tv} : H p = some (.lst vs) → TvAll K F H fp vs ts → TvAt K F H (p :: fp) (.ref p) (.lst ts)
  | tup {p : Addr} {vs : List V} {fp : List Addr} {ts : List Tv} : H p = some (.tup vs) → TvAll K F H fp vs ts → TvAt K F H fp (.ref p) (.tup ts)
  | obj {p dx : Addr} {c : Str} {ns : List Str} {vs : List V} {fp : List Addr} {ts : List Tv} : H p = some (.ins (He.ga K c) dx (ns.zip vs)) → H dx = some (.own p) → ns.length = vs.length → TvAll K F H fp vs ts → TvAt K F H (p :: dx :: fp) (.ref p) (.obj c ns ts)
  | dct {p : Addr} {ks : List Key} {vs : List V} {fp : List Addr} {ts : List Tv} : H p = some (.dK (ks.zip vs)) → ks.length = vs.length → TvAll K F H fp vs ts → TvAt K F H (p :: fp) (.ref p) (.dct ks ts)
  | any {v : V} : TvAt K F H [] v .any
inductive TvAll (K : PySem.W.Frag) (F H : Hp) : List Addr → List V → List Tv → Prop
  | nil : TvAll K F H [] [] []
  | cons {fp fq : List Addr} {v : V} {t : Tv} {vs : List V} {ts : List Tv} : TvAt K F H fp v t → TvAll K F H fq vs ts → TvAll K F H (fp ++ fq) (v :: vs) (t :: ts)
end
def KeepOn (fp : List Addr) (H H' : Hp) : Prop := ∀ p o, H p = some o → (p ∈ fp ∨ tupO o) → H' p = some o
theorem KeepOn.sub {fp fq : List Addr} {H H' : Hp} (h : KeepOn fp H H') (s : ∀ p ∈ fq, p ∈ fp) : KeepOn fq H H' := fun p o e c => h p o e (c.imp (s p) id)
theorem KeepOn.same {fp : List Addr} {H H' : Hp} (h : Same H H') : KeepOn fp H H' := fun p o e _ => h p o e
theorem KeepOn.tup {fp : List Addr} {H H' : Hp} (h : KeepOn fp H H') {p : Addr} {vs : List V} (s : H p = some (.tup vs)) : H' p = some (.tup vs) :=
  h _ _ s (.inr (.inl (.inl ⟨_, rfl⟩)))
theorem OwnAt.keep {K : PySem.W.Frag} {F H F' H' : Hp} {p : Addr} {d : PD} (e : Same F F') (g : KeepOn [p] H H') (h : OwnAt K F H p d) : OwnAt K F' H' p d := by
  cases d with
  | list ds => obtain ⟨vs, a, b⟩ := h; exact ⟨vs, g _ _ a (.inl (by simp)), b.mono e⟩
  | dict kvs => obtain ⟨es, a, b⟩ := h; exact ⟨es, g _ _ a (.inl (by simp)), b.mono e⟩
  | _ => exact h.elim
mutual
theorem TvAt.keep {K : PySem.W.Frag} {F H F' H' : Hp} (e : Same F F') : ∀ {fp : List Addr} {v : V} {t : Tv}, KeepOn fp H H' → TvAt K F H fp v t → TvAt K F' H' fp v t
  | _, _, _, _, .fr h => .fr (h.mono e)
  | _, _, _, g, .own h => .own (h.keep e g)
  | _, _, _, g, .dT h k => .dT (g _ _ h (.inl (by simp))) (k.mono e)
  | _, _, _, g, .lst h k => .lst (g _ _ h (.inl (by simp))) (TvAll.keep e (g.sub fun p hp => List.mem_cons_of_mem _ hp) k)
  | _, _, _, g, .tup h k => .tup (g.tup h) (TvAll.keep e g k)
  | _, _, _, g, .obj h h' l k => .obj (g _ _ h (.inl (by simp))) (g _ _ h' (.inl (by simp))) l (TvAll.keep e (g.sub fun p hp => List.mem_cons_of_mem _ (List.mem_cons_of_mem _ hp)) k)
  | _, _, _, g, .dct h l k => .dct (g _ _ h (.inl (by simp))) l (TvAll.keep e (g.sub fun p hp => List.mem_cons_of_mem _ hp) k)
  | _, _, _, _, .any => .any
theorem TvAll.keep {K : PySem.W.Frag} {F H F' H' : Hp} (e : Same F F') : ∀ {fp : List Addr} {vs : List V} {ts : List Tv}, KeepOn fp H H' → TvAll K F H fp vs ts → TvAll K F' H' fp vs ts
  | _, _, _, _, .nil => .nil
  | _, _, _, g, .cons h k => .cons (TvAt.keep e (g.sub fun p hp => List.mem_append_left _ hp) h) (TvAll.keep e (g.sub fun p hp => List.mem_append_right _ hp) k)
end
mutual
theorem TvAt.nt {K : PySem.W.Frag} {F H : Hp} : ∀ {fp : List Addr} {v : V} {t : Tv}, TvAt K F H fp v t → ∀ p ∈ fp, ∃ o, H p = some o ∧ ¬ tupO o
  | _, _, _, .fr _, p, hp => by cases hp
  | _, _, _, .own h, p, hp => by rw [List.mem_singleton.mp hp]; exact h.nt
  | _, _, _, .dT h _, p, hp => by rw [List.mem_singleton.mp hp]; exact ⟨_, h, nt_dT⟩
  | _, _, _, .lst h k, p, hp => by
    rcases List.mem_cons.mp hp with e | e
    · rw [e]; exact ⟨_, h, nt_lst⟩
    · exact TvAll.nt k p e
  | _, _, _, .tup _ k, p, hp => TvAll.nt k p hp
  | _, _, _, .obj h h' _ k, p, hp => by
    rcases List.mem_cons.mp hp with e | e
    · rw [e]; exact ⟨_, h, nt_ins⟩
    · rcases List.mem_cons.mp e with e | e
      · rw [e]; exact ⟨_, h', nt_own⟩
      · exact TvAll.nt k p e
  | _, _, _, .dct h _ k, p, hp => by
    rcases List.mem_cons.mp hp with e | e
    · rw [e]; exact ⟨_, h, nt_dK⟩
    · exact TvAll.nt k p e
  | _, _, _, .any, p, hp => by cases hp
theorem TvAll.nt {K : PySem.W.Frag} {F H : Hp} : ∀ {fp : List Addr} {vs : List V} {ts : List Tv}, TvAll K F H fp vs ts → ∀ p ∈ fp, ∃ o, H p = some o ∧ ¬ tupO o
  | _, _, _, .nil, p, hp => by cases hp
  | _, _, _, .cons h k, p, hp => by
    rcases List.mem_append.mp hp with e | e
    · exact TvAt.nt h p e
    · exact TvAll.nt k p e
end
section
variable {K : PySem.W.Frag} {F F' : Hp} (e : ∀ (v : V) (d : PD), Dp K F v d → Dp K F' v d)
include e
theorem DpAll.map : ∀ {vs : List V} {ds : List PD}, DpAll K F vs ds → DpAll K F' vs ds
  | _, _, .nil => .nil
  | _, _, .cons h t => .cons (e _ _ h) (DpAll.map t)
theorem KvR.map {κ : Type} {kd : κ → PD} : ∀ {es : List (κ × V)} {kvs : List (PD × PD)}, KvR K F kd es kvs → KvR K F' kd es kvs
  | _, _, .nil => .nil
  | _, _, .cons h t => .cons (e _ _ h) (KvR.map t)
theorem KvT.map {es : List (List Key × V)} {kvs : List (List Key × PD)} (h : KvT K F es kvs) : KvT K F' es kvs := by
  unfold KvT at h ⊢
  induction h with
  | nil => exact .nil
  | cons a _ ih => exact .cons ⟨a.1, e _ _ a.2⟩ ih
theorem OwnAt.map {H H' : Hp} {p : Addr} {d : PD} (g : KeepOn [p] H H') (h : OwnAt K F H p d) : OwnAt K F' H' p d := by
  cases d with
  | list ds => obtain ⟨vs, a, b⟩ := h; exact ⟨vs, g _ _ a (.inl (by simp)), b.map e⟩
  | dict kvs => obtain ⟨es, a, b⟩ := h; exact ⟨es, g _ _ a (.inl (by simp)), b.map e⟩
  | _ => exact h.elim
mutual
theorem TvAt.map {H H' : Hp} : ∀ {fp : List Addr} {v : V} {t : Tv}, KeepOn fp H H' → TvAt K F H fp v t → TvAt K F' H' fp v t
  | _, _, _, _, .fr h => .fr (e _ _ h)
  | _, _, _, g, .own h => .own (h.map e g)
  | _, _, _, g, .dT h k => .dT (g _ _ h (.inl (by simp))) (k.map e)
  | _, _, _, g, .lst h k => .lst (g _ _ h (.inl (by simp))) (TvAll.map (g.sub fun p hp => List.mem_cons_of_mem _ hp) k)
  | _, _, _, g, .tup h k => .tup (g.tup h) (TvAll.map g k)
  | _, _, _, g, .obj h h' l k => .obj (g _ _ h (.inl (by simp))) (g _ _ h' (.inl (by simp))) l (TvAll.map (g.sub fun p hp => List.mem_cons_of_mem _ (List.mem_cons_of_mem _ hp)) k)
  | _, _, _, g, .dct h l k => .dct (g _ _ h (.inl (by simp))) l (TvAll.map (g.sub fun p hp => List.mem_cons_of_mem _ hp) k)
  | _, _, _, _, .any => .any
theorem TvAll.map {H H' : Hp} : ∀ {fp : List Addr} {vs : List V} {ts : List Tv}, KeepOn fp H H' → TvAll K F H fp vs ts → TvAll K F' H' fp vs ts
  | _, _, _, _, .nil => .nil
  | _, _, _, g, .cons h k => .cons (TvAt.map (g.sub fun p hp => List.mem_append_left _ hp) h) (TvAll.map (g.sub fun p hp => List.mem_append_right _ hp) k)
end
end
theorem TvAll.length {K : PySem.W.Frag} {F H : Hp} : ∀ {fp : List Addr} {vs : List V} {ts : List Tv}, TvAll K F H fp vs ts → vs.length = ts.length
  | _, _, _, .nil => rfl
  | _, _, _, .cons _ k => by rw [List.length_cons, List.length_cons, k.length]
mutual
def Tv.toD : Tv → R PD
  | .fr d => .ok d
  | .own (.list l) => .ok (.list l)
  | .own (.dict kvs) => .ok (encD kvs)
  | .own _ => .bad
  | .dT _ => .bad
  | .lst ts => (Tv.toDs ts).bind fun l => .ok (.list l)
  | .tup ts => (Tv.toDs ts).bind fun l => .ok (.tuple l)
  | .obj _ _ _ => .bad
  | .dct _ _ => .bad
  | .any => .bad
def Tv.toDs : List Tv → R (List PD)
  | [] => .ok []
  | t :: ts => (Tv.toD t).bind fun d => (Tv.toDs ts).bind fun l => .ok (d :: l)
end
theorem R.bind_inv {α β : Type} {r : R α} {f : α → R β} {b : β} (h : r.bind f = .ok b) : ∃ a, r = .ok a ∧ f a = .ok b := by
  cases r with
  | ok a => exact ⟨a, rfl, h⟩
  | exc c => cases h
  | bad => cases h
open Classical in
noncomputable def frzF (F H : Hp) (fp : List Addr) : Hp := fun p => if p ∈ fp ∨ ∃ o, H p = some o ∧ tupO o then H p else F p
theorem frz_f {F H : Hp} {fp : List Addr} (s : Same F H) : Same F (frzF F H fp) := fun p u e => by
  unfold frzF
  split
  · exact s p u e
  · exact e
theorem frz_g {F H : Hp} {fp : List Addr} (s : Same F H) : Same (frzF F H fp) H := fun p u e => by
  unfold frzF at e
  split at e
  · exact e
  · exact s p u e
theorem frz_n {F H : Hp} {fp : List Addr} {p : Addr} (h : frzF F H fp p ≠ none) : F p ≠ none ∨ p ∈ fp ∨ ∃ o, H p = some o ∧ tupO o := by
  unfold frzF at h
  split at h
  · rename_i c; exact .inr c
  · exact .inl h
theorem frz_keep {F H : Hp} {fp : List Addr} : KeepOn fp H (frzF F H fp) := fun p o e c => by
  unfold frzF
  rw [if_pos (c.imp id fun t => ⟨o, e, t⟩)]
  exact e
theorem frz_sub {F H : Hp} {fp fq : List Addr} (s : Same F H) (h : ∀ p ∈ fq, p ∈ fp) : Same (frzF F H fq) (frzF F H fp) := fun p u e => by
  unfold frzF at e ⊢
  split at e
  · rename_i c
    rw [if_pos (c.imp (h p) id)]
    exact e
  · split
    · exact s p u e
    · exact e
mutual
theorem TvAt.frz {K : PySem.W.Frag} {F H : Hp} (s : Same F H) : ∀ {fp : List Addr} {v : V} {t : Tv} {d : PD}, TvAt K F H fp v t → t.toD = .ok d → Dp K (frzF F H fp) v d
  | _, _, _, d, .fr h, e => by
    unfold Tv.toD at e
    cases e
    exact h.mono (frz_f s)
  | _, _, _, d, .own (p := p) (x := x) h, e => by
    cases x with
    | list l =>
      unfold Tv.toD at e
      cases e
      obtain ⟨vs, a, b⟩ := h
      exact .lst (.inl (frz_keep _ _ a (.inl (by simp)))) (b.mono (frz_f s))
    | dict kvs =>
      unfold Tv.toD at e
      cases e
      obtain ⟨es, a, b⟩ := h
      obtain ⟨ks, vs, ds, rfl, el, rfl, al⟩ := b.zip
      exact .dct (frz_keep _ _ a (.inl (by simp))) el (al.mono (frz_f s))
    | _ => unfold Tv.toD at e; cases e
  | _, _, _, d, .dT _ _, e => by
    unfold Tv.toD at e
    cases e
  | _, _, _, d, .lst h k, e => by
    unfold Tv.toD at e
    obtain ⟨l, e1, e2⟩ := R.bind_inv e
    cases e2
    exact .lst (.inl (frz_keep _ _ h (.inl (by simp)))) ((TvAll.frz s k e1).mono (frz_sub s fun p hp => List.mem_cons_of_mem _ hp))
  | _, _, _, d, .tup h k, e => by
    unfold Tv.toD at e
    obtain ⟨l, e1, e2⟩ := R.bind_inv e
    cases e2
    exact .tup (frz_keep.tup h) (TvAll.frz s k e1)
  | _, _, _, d, .obj _ _ _ _, e => by
    unfold Tv.toD at e
    cases e
  | _, _, _, d, .dct _ _ _, e => by
    unfold Tv.toD at e
    cases e
  | _, _, _, d, .any, e => by
    unfold Tv.toD at e
    cases e
theorem TvAll.frz {K : PySem.W.Frag} {F H : Hp} (s : Same F H) : ∀ {fp : List Addr} {vs : List V} {ts : List Tv} {ds : List PD}, TvAll K F H fp vs ts → Tv.toDs ts = .ok ds → DpAll K (frzF F H fp) vs ds
  | _, _, _, ds, .nil, e => by
    unfold Tv.toDs at e
    cases e
    exact .nil
  | _, _, _, ds, .cons h k, e => by
    unfold Tv.toDs at e
    obtain ⟨d, e1, e2⟩ := R.bind_inv e
    obtain ⟨l, e3, e4⟩ := R.bind_inv e2
    cases e4
    exact .cons ((TvAt.frz s h e1).mono (frz_sub s fun p hp => List.mem_append_left _ hp)) ((TvAll.frz s k e3).mono (frz_sub s fun p hp => List.mem_append_right _ hp))
end
mutual
def immD : PD → Bool
  | .list _ => false
  | .dict _ => false
  | .tuple l => immDs l
  | _ => true
def immDs : List PD → Bool
  | [] => true
  | d :: l => immD d && immDs l
end
mutual
theorem Dp.imm {K : PySem.W.Frag} {F F' H : Hp} (s : Same F' H) : ∀ {v : V} {d : PD}, Dp K F' v d → immD d = true → Dp K (frzF F H []) v d
  | _, _, .non, _ => .non
  | _, _, .bl b, _ => .bl b
  | _, _, .int i, _ => .int i
  | _, _, .str x, _ => .str x
  | _, _, .lst _ _, e => by unfold immD at e; cases e
  | _, _, .tup h k, e => by
    unfold immD at e
    exact .tup (frz_keep.tup (s _ _ h)) (DpAll.imm s k e)
theorem DpAll.imm {K : PySem.W.Frag} {F F' H : Hp} (s : Same F' H) : ∀ {vs : List V} {ds : List PD}, DpAll K F' vs ds → immDs ds = true → DpAll K (frzF F H []) vs ds
  | _, _, .nil, _ => .nil
  | _, _, .cons h k, e => by
    unfold immDs at e
    rw [Bool.and_eq_true] at e
    exact .cons (Dp.imm s h e.1) (DpAll.imm s k e.2)
end
theorem KvR.imm {K : PySem.W.Frag} {F F' H : Hp} {κ : Type} {kd : κ → PD} (s : Same F' H) : ∀ {es : List (κ × V)} {kvs : List (PD × PD)}, KvR K F' kd es kvs → kvs.all (fun q => immD q.2) = true → KvR K (frzF F H []) kd es kvs
  | _, _, .nil, _ => .nil
  | _, _, .cons h t, e => by
    rw [List.all_cons, Bool.and_eq_true] at e
    exact .cons (h.imm s e.1) (KvR.imm s t e.2)
theorem KvT.imm {K : PySem.W.Frag} {F F' H : Hp} (s : Same F' H) {es : List (List Key × V)} {kvs : List (List Key × PD)} (h : KvT K F' es kvs) : kvs.all (fun q => immD q.2) = true → KvT K (frzF F H []) es kvs := by
  unfold KvT at h ⊢
  induction h with
  | nil => exact fun _ => .nil
  | cons a _ ih =>
    intro e
    rw [List.all_cons, Bool.and_eq_true] at e
    exact .cons ⟨a.1, a.2.imm s e.1⟩ (ih e.2)
mutual
def Tv.imm : Tv → Bool
  | .fr d => immD d
  | .own (.list l) => immDs l
  | .own (.dict kvs) => kvs.all fun q => immD q.2
  | .own _ => false
  | .dT kvs => kvs.all fun q => immD q.2
  | .lst ts => Tv.imms ts
  | .tup ts => Tv.imms ts
  | .obj _ _ ts => Tv.imms ts
  | .dct _ ts => Tv.imms ts
  | .any => true
def Tv.imms : List Tv → Bool
  | [] => true
  | t :: ts => Tv.imm t && Tv.imms ts
end
theorem OwnAt.imm {K : PySem.W.Frag} {F F' H : Hp} (s : Same F' H) {p : Addr} {x : PD} (h : OwnAt K F' H p x) (e : (Tv.own x).imm = true) : OwnAt K (frzF F H []) H p x := by
  cases x with
  | list l =>
    unfold Tv.imm at e
    obtain ⟨vs, a, b⟩ := h
    exact ⟨vs, a, b.imm s e⟩
  | dict kvs =>
    unfold Tv.imm at e
    obtain ⟨es, a, b⟩ := h
    exact ⟨es, a, b.imm s e⟩
  | _ => exact h.elim
mutual
theorem TvAt.imm {K : PySem.W.Frag} {F F' H : Hp} (s : Same F' H) : ∀ {fp : List Addr} {v : V} {t : Tv}, TvAt K F' H fp v t → t.imm = true → TvAt K (frzF F H []) H fp v t
  | _, _, _, .fr h, e => by unfold Tv.imm at e; exact .fr (h.imm s e)
  | _, _, _, .own h, e => .own (h.imm s e)
  | _, _, _, .dT h k, e => by unfold Tv.imm at e; exact .dT h (k.imm s e)
  | _, _, _, .lst h k, e => by unfold Tv.imm at e; exact .lst h (TvAll.imm s k e)
  | _, _, _, .tup h k, e => by unfold Tv.imm at e; exact .tup h (TvAll.imm s k e)
  | _, _, _, .obj h h' l k, e => by unfold Tv.imm at e; exact .obj h h' l (TvAll.imm s k e)
  | _, _, _, .dct h l k, e => by unfold Tv.imm at e; exact .dct h l (TvAll.imm s k e)
  | _, _, _, .any, _ => .any
theorem TvAll.imm {K : PySem.W.Frag} {F F' H : Hp} (s : Same F' H) : ∀ {fp : List Addr} {vs : List V} {ts : List Tv}, TvAll K F' H fp vs ts → Tv.imms ts = true → TvAll K (frzF F H []) H fp vs ts
  | _, _, _, .nil, _ => .nil
  | _, _, _, .cons h k, e => by
    unfold Tv.imms at e
    rw [Bool.and_eq_true] at e
    exact .cons (TvAt.imm s h e.1) (TvAll.imm s k e.2)
end
theorem Ext.tups {F H H' : Hp} (s : Same F H) (h : Same H H') : Ext F H (frzF F H' []) H' := by
  refine ⟨frz_f (s.trans h), frz_g (s.trans h), h, fun p hp => ?_⟩
  rcases frz_n hp with q | q | ⟨o, q, t⟩
  · exact .inl q
  · cases q
  · cases e : H p with
    | none => exact .inr (.inl rfl)
    | some u =>
      have := h p u e
      rw [q] at this
      cases this
      exact .inr (.inr ⟨_, rfl, t⟩)
theorem frz_none {F H : Hp} {p : Addr} {o : HO} (hf : F p = none) (ho : H p = some o) (hn : ¬ tupO o) : frzF F H [] p = none := by
  unfold frzF
  rw [if_neg]
  · exact hf
  · rintro (h | ⟨u, h, t⟩)
    · cases h
    · rw [ho] at h; cases h; exact hn t
inductive Sl where
  | d (x : PD)
  | t (x : Tv)
  | l (x : PD)
  | b (x : Tv)
abbrev Sl.o (x : PD) : Sl := .t (.own x)
def encV : V → PD
  | .bl b => .bool b
  | .int i => .int i
  | .str x => .str x
  | .non => .none
  | _ => .dict []
def encF (fs : List (Str × V)) : List PD := fs.map fun q => .tuple [.str q.1, encV q.2]
def LckAt (K : PySem.W.Frag) (F : Hp) (p : Addr) : PD → Prop
  | .dict kvs => ∃ od es, F p = some (.frz od (.dK es)) ∧ KvR K F keyD es kvs
  | .tuple [.int a, .int b, .list es] => p = a.toNat ∧ ∃ fs, F b.toNat = some (.xd fs) ∧ es = encF fs
  | _ => False
theorem LckAt.mono {K : PySem.W.Frag} {F F' : Hp} {p : Addr} {d : PD} (e : Same F F') (h : LckAt K F p d) : LckAt K F' p d := by
  unfold LckAt at h ⊢
  split at h
  · obtain ⟨od, es, a, b⟩ := h; exact ⟨od, es, e _ _ a, b.mono e⟩
  · obtain ⟨q, fs, a, b⟩ := h; exact ⟨q, fs, e _ _ a, b⟩
  · exact h.elim
abbrev Rho := List (Option Sl)
structure StF (K : PySem.W.Frag) (F0 H0 F H : Hp) (σ : L2.St) (ρ : Rho) (φ : Nat → List Addr) : Prop where
  ext : Ext F0 H0 F H
  len : σ.length = ρ.length
  dat : ∀ (i : Nat) (x : PD), ρ[i]? = some (some (Sl.d x)) → ∃ v, σ[i]? = some (some v) ∧ Dp K F v x
  tre : ∀ (i : Nat) (x : Tv), ρ[i]? = some (some (Sl.t x)) → ∃ v, σ[i]? = some (some v) ∧ TvAt K F H (φ i) v x
  fre : ∀ (i : Nat) (p : Addr), p ∈ φ i → H0 p = none ∧ F p = none ∧ ∃ o, H p = some o ∧ ¬ tupO o
  nod : ∀ i, (φ i).Nodup
  dis : ∀ (i j : Nat) (p : Addr), p ∈ φ i → p ∈ φ j → i = j
  lck : ∀ (i : Nat) (x : PD), ρ[i]? = some (some (Sl.l x)) → ∃ p, σ[i]? = some (some (.ref p)) ∧ LckAt K F p x
  bor : ∀ (i : Nat) (x : Tv), ρ[i]? = some (some (Sl.b x)) → ∃ v fp, σ[i]? = some (some v) ∧ TvAt K F H0 fp v x
def StR (K : PySem.W.Frag) (F0 H0 F H : Hp) (σ : L2.St) (ρ : Rho) : Prop := ∃ φ, StF K F0 H0 F H σ ρ φ
def phi (φ : Nat → List Addr) (i : Nat) (fp : List Addr) : Nat → List Addr := fun j => if j = i then fp else φ j
theorem phi_same {φ : Nat → List Addr} {i : Nat} {fp : List Addr} : phi φ i fp i = fp := if_pos rfl
theorem phi_ne {φ : Nat → List Addr} {i j : Nat} {fp : List Addr} (h : j ≠ i) : phi φ i fp j = φ j := if_neg h
section
variable {K : PySem.W.Frag} {F0 H0 F H F' H' : Hp} {σ : L2.St} {ρ : Rho} {φ : Nat → List Addr}
theorem StR.ext (S : StR K F0 H0 F H σ ρ) : Ext F0 H0 F H := let ⟨_, S⟩ := S; S.ext
theorem StR.len (S : StR K F0 H0 F H σ ρ) : σ.length = ρ.length := let ⟨_, S⟩ := S; S.len
theorem StR.dat (S : StR K F0 H0 F H σ ρ) : ∀ (i : Nat) (x : PD), ρ[i]? = some (some (Sl.d x)) → ∃ v, σ[i]? = some (some v) ∧ Dp K F v x := let ⟨_, S⟩ := S; S.dat
theorem StR.lck (S : StR K F0 H0 F H σ ρ) : ∀ (i : Nat) (x : PD), ρ[i]? = some (some (Sl.l x)) → ∃ p, σ[i]? = some (some (.ref p)) ∧ LckAt K F p x := let ⟨_, S⟩ := S; S.lck
theorem StF.own (S : StF K F0 H0 F H σ ρ φ) (i : Nat) (x : PD) (h : ρ[i]? = some (some (Sl.o x))) : ∃ p, σ[i]? = some (some (.ref p)) ∧ φ i = [p] ∧ H0 p = none ∧ F p = none ∧ OwnAt K F H p x := by
  obtain ⟨v, a, b⟩ := S.tre i _ h
  generalize hf : φ i = fp at b
  cases b with
  | own b =>
    obtain ⟨c, d, _⟩ := S.fre i _ (by rw [hf]; exact List.mem_singleton.mpr rfl)
    exact ⟨_, a, rfl, c, d, b⟩
theorem StR.own (S : StR K F0 H0 F H σ ρ) (i : Nat) (x : PD) (h : ρ[i]? = some (some (Sl.o x))) : ∃ p, σ[i]? = some (some (.ref p)) ∧ H0 p = none ∧ F p = none ∧ OwnAt K F H p x := by
  obtain ⟨φ, S⟩ := S
  obtain ⟨p, a, _, b⟩ := S.own i x h
  exact ⟨p, a, b⟩
theorem StR.dis (S : StR K F0 H0 F H σ ρ) (i j : Nat) (x y : PD) (p : Addr) (h1 : ρ[i]? = some (some (Sl.o x))) (h2 : ρ[j]? = some (some (Sl.o y))) (h3 : σ[i]? = some (some (.ref p))) (h4 : σ[j]? = some (some (.ref p))) : i = j := by
  obtain ⟨φ, S⟩ := S
  obtain ⟨p1, a1, b1, _⟩ := S.own i x h1
  obtain ⟨p2, a2, b2, _⟩ := S.own j y h2
  rw [h3] at a1; cases a1
  rw [h4] at a2; cases a2
  exact S.dis i j p (by rw [b1]; simp) (by rw [b2]; simp)
theorem StR.bor (S : StR K F0 H0 F H σ ρ) : ∀ (i : Nat) (x : Tv), ρ[i]? = some (some (Sl.b x)) → ∃ v fp, σ[i]? = some (some v) ∧ TvAt K F H0 fp v x := let ⟨_, S⟩ := S; S.bor
theorem StR.same (S : StR K F0 H0 F H σ ρ) : Same F H := S.ext.g
theorem StF.same (S : StF K F0 H0 F H σ ρ φ) : Same F H := S.ext.g
theorem StF.go (S : StF K F0 H0 F H σ ρ φ) (e : Ext F H F' H') : StF K F0 H0 F' H' σ ρ φ := by
  refine ⟨S.ext.trans e, S.len, fun i x h => ?_, fun i x h => ?_, fun i p h => ?_, S.nod, S.dis, fun i x h => let ⟨p, a, b⟩ := S.lck i x h; ⟨p, a, b.mono e.f⟩, fun i x h => let ⟨v, fp, a, b⟩ := S.bor i x h; ⟨v, fp, a, b.keep e.f (KeepOn.same (Same.refl H0))⟩⟩
  · obtain ⟨v, a, b⟩ := S.dat i x h
    exact ⟨v, a, b.mono e.f⟩
  · obtain ⟨v, a, b⟩ := S.tre i x h
    exact ⟨v, a, b.keep e.f (KeepOn.same e.h)⟩
  · obtain ⟨a, b, o, c, d⟩ := S.fre i p h
    exact ⟨a, e.keep b c d, o, e.h p o c, d⟩
theorem StR.go (S : StR K F0 H0 F H σ ρ) (e : Ext F H F' H') : StR K F0 H0 F' H' σ ρ := let ⟨φ, S⟩ := S; ⟨φ, S.go e⟩
theorem StR.rebase (S : StR K F0 H0 F H σ ρ) : StR K F H0 F H σ ρ := let ⟨φ, S⟩ := S;
  ⟨φ, ⟨Same.refl F, S.ext.g, S.ext.h, fun _ h => .inl h⟩, S.len, S.dat, S.tre, S.fre, S.nod, S.dis, S.lck, S.bor⟩
theorem StR.unbase {F1 H1 : Hp} (b : Ext F0 H0 F H) (S : StR K F H0 F1 H1 σ ρ) : StR K F0 H0 F1 H1 σ ρ := let ⟨φ, S⟩ := S;
  ⟨φ, b.base S.ext, S.len, S.dat, S.tre, S.fre, S.nod, S.dis, S.lck, S.bor⟩
theorem get_set {α : Type} {l : List (Option α)} {i j : Nat} {x : Option α} {y : α} (h : (l.set i x)[j]? = some (some y)) : (i = j ∧ i < l.length ∧ x = some y) ∨ (i ≠ j ∧ l[j]? = some (some y)) := by
  by_cases e : i = j
  · subst e
    by_cases hl : i < l.length
    · rw [List.getElem?_set_self hl] at h
      exact .inl ⟨rfl, hl, Option.some.inj h⟩
    · rw [List.getElem?_eq_none (by simpa using hl)] at h; cases h
  · rw [List.getElem?_set_ne e] at h
    exact .inr ⟨e, h⟩
theorem StF.put (S : StF K F0 H0 F H σ ρ φ) {i : Nat} {v : Option V} {x : Option Sl} {fp : List Addr}
    (hd : ∀ y, x = some (Sl.d y) → ∃ w, v = some w ∧ Dp K F w y) (ht : ∀ y, x = some (Sl.t y) → ∃ w, v = some w ∧ TvAt K F H fp w y) (hl : ∀ y, x = some (Sl.l y) → ∃ p, v = some (.ref p) ∧ LckAt K F p y) (hb : ∀ y, x = some (Sl.b y) → ∃ w fp, v = some w ∧ TvAt K F H0 fp w y)
    (hf : ∀ p ∈ fp, H0 p = none ∧ F p = none ∧ ∃ o, H p = some o ∧ ¬ tupO o) (hn : fp.Nodup) (hx : ∀ (j : Nat) (p : Addr), j ≠ i → p ∈ φ j → p ∉ fp) :
    StF K F0 H0 F H (σ.set i v) (ρ.set i x) (phi φ i fp) := by
  refine ⟨S.ext, by simpa using S.len, fun j y e => ?_, fun j y e => ?_, fun j p hp => ?_, fun j => ?_, fun j k p hj hk => ?_, fun j y e => ?_, fun j y e => ?_⟩
  · rcases get_set e with ⟨rfl, hj, q⟩ | ⟨hn, q⟩
    · obtain ⟨w, rfl, a⟩ := hd y q
      exact ⟨w, by rw [List.getElem?_set_self (by rw [S.len]; exact hj)], a⟩
    · obtain ⟨u, a, b⟩ := S.dat j y q
      exact ⟨u, by rw [List.getElem?_set_ne hn]; exact a, b⟩
  · rcases get_set e with ⟨rfl, hj, q⟩ | ⟨hn, q⟩
    · obtain ⟨w, rfl, a⟩ := ht y q
      exact ⟨w, by rw [List.getElem?_set_self (by rw [S.len]; exact hj)], by rw [phi_same]; exact a⟩
    · obtain ⟨u, a, b⟩ := S.tre j y q
      exact ⟨u, by rw [List.getElem?_set_ne hn]; exact a, by rw [phi_ne (Ne.symm hn)]; exact b⟩
  · by_cases c : j = i
    · subst c; rw [phi_same] at hp; exact hf p hp
    · rw [phi_ne c] at hp; exact S.fre j p hp
  · by_cases c : j = i
    · subst c; rw [phi_same]; exact hn
    · rw [phi_ne c]; exact S.nod j
  · by_cases c : j = i
    · by_cases c2 : k = i
      · rw [c, c2]
      · subst c
        rw [phi_same] at hj
        rw [phi_ne c2] at hk
        exact absurd hj (hx k p c2 hk)
    · by_cases c2 : k = i
      · subst c2
        rw [phi_same] at hk
        rw [phi_ne c] at hj
        exact absurd hk (hx j p c hj)
      · rw [phi_ne c] at hj
        rw [phi_ne c2] at hk
        exact S.dis j k p hj hk
  · rcases get_set e with ⟨rfl, hll, q⟩ | ⟨hn, q⟩
    · obtain ⟨w, rfl, a⟩ := hl y q
      exact ⟨w, by rw [List.getElem?_set_self (by rw [S.len]; exact hll)], a⟩
    · obtain ⟨u, a, b⟩ := S.lck j y q
      exact ⟨u, by rw [List.getElem?_set_ne hn]; exact a, b⟩
  · rcases get_set e with ⟨rfl, hll, q⟩ | ⟨hn, q⟩
    · obtain ⟨w, fq, rfl, a⟩ := hb y q
      exact ⟨w, fq, by rw [List.getElem?_set_self (by rw [S.len]; exact hll)], a⟩
    · obtain ⟨u, fq, a, b⟩ := S.bor j y q
      exact ⟨u, fq, by rw [List.getElem?_set_ne hn]; exact a, b⟩
theorem StR.setD (S : StR K F0 H0 F H σ ρ) {i : Nat} {v : V} {x : PD} (h : Dp K F v x) : StR K F0 H0 F H (σ.set i (some v)) (ρ.set i (some (Sl.d x))) := by
  obtain ⟨φ, S⟩ := S
  refine ⟨_, S.put (fp := []) (fun y e => ?_) (fun y e => ?_) (fun y e => ?_) (fun y e => ?_) (fun p hp => by cases hp) List.nodup_nil (fun j p _ _ hp => by cases hp)⟩
  · cases e; exact ⟨v, rfl, h⟩
  · cases e
  · cases e
  · cases e
theorem StR.kill (S : StR K F0 H0 F H σ ρ) (i : Nat) : StR K F0 H0 F H σ (ρ.set i none) := by
  obtain ⟨φ, S⟩ := S
  refine ⟨φ, S.ext, by simpa using S.len, fun j y e => ?_, fun j y e => ?_, S.fre, S.nod, S.dis, fun j y e => ?_, fun j y e => ?_⟩
  · rcases get_set e with ⟨_, _, q⟩ | ⟨_, q⟩
    · cases q
    · exact S.dat j y q
  · rcases get_set e with ⟨_, _, q⟩ | ⟨_, q⟩
    · cases q
    · exact S.tre j y q
  · rcases get_set e with ⟨_, _, q⟩ | ⟨_, q⟩
    · cases q
    · exact S.lck j y q
  · rcases get_set e with ⟨_, _, q⟩ | ⟨_, q⟩
    · cases q
    · exact S.bor j y q
theorem StR.setU (S : StR K F0 H0 F H σ ρ) (i : Nat) : StR K F0 H0 F H (σ.set i none) (ρ.set i none) := by
  obtain ⟨φ, S⟩ := S
  exact ⟨_, S.put (fp := []) (fun y e => by cases e) (fun y e => by cases e) (fun y e => by cases e) (fun y e => by cases e) (fun p hp => by cases hp) List.nodup_nil (fun j p _ _ hp => by cases hp)⟩
theorem StR.setT {F1 H1 : Hp} (S : StR K F0 H0 F H σ ρ) {i : Nat} {v : V} {x : Tv} {fp : List Addr} (e : Ext F H F1 H1) (hp : ∀ p ∈ fp, H p = none ∧ F1 p = none) (hn : fp.Nodup) (h : TvAt K F1 H1 fp v x) :
    StR K F0 H0 F1 H1 (σ.set i (some v)) (ρ.set i (some (Sl.t x))) := by
  obtain ⟨φ, S⟩ := S
  have S1 := S.go e
  refine ⟨_, S1.put (fp := fp) (fun y e => by cases e) (fun y e => ?_) (fun y e => by cases e) (fun y e => by cases e) (fun p q => ⟨S.ext.h.free (hp p q).1, (hp p q).2, h.nt p q⟩) hn (fun j p _ hj hq => ?_)⟩
  · cases e; exact ⟨v, rfl, h⟩
  · obtain ⟨_, _, o, a, _⟩ := S.fre j p hj
    rw [(hp p hq).1] at a; cases a
theorem StR.setN {F1 H1 : Hp} (S : StR K F0 H0 F H σ ρ) {i : Nat} {p : Addr} {x : PD} (e : Ext F H F1 H1) (hp : H p = none) (hf : F1 p = none) (h : OwnAt K F1 H1 p x) :
    StR K F0 H0 F1 H1 (σ.set i (some (.ref p))) (ρ.set i (some (Sl.o x))) :=
  S.setT (fp := [p]) e (fun q hq => by rw [List.mem_singleton.mp hq]; exact ⟨hp, hf⟩) (by simp) (.own h)
theorem StF.mutT (S : StF K F0 H0 F H σ ρ φ) {i : Nat} {y : Tv} {q : Addr} {o : HO} (hq : q ∈ φ i) (ho : ¬ tupO o) (h : ∀ v, σ[i]? = some (some v) → TvAt K F (upd H q o) (φ i) v y) (hs : ∃ v, σ[i]? = some (some v)) :
    StF K F0 H0 F (upd H q o) σ (ρ.set i (some (Sl.t y))) φ := by
  obtain ⟨b, c, u, hu, nu⟩ := S.fre i q hq
  have keep : ∀ j, j ≠ i → KeepOn (φ j) H (upd H q o) := fun j hj p u' e t => by
    by_cases z : p = q
    · subst z
      rcases t with t | t
      · exact absurd (S.dis j i p t hq) hj
      · rw [hu] at e; cases e; exact absurd t nu
    · rw [upd_ne z]; exact e
  refine ⟨⟨S.ext.f, fun r u e => ?_, fun r u e => ?_, S.ext.n⟩, by simpa using S.len, fun j z e => ?_, fun j z e => ?_, fun j p hp => ?_, S.nod, S.dis, fun j z e => ?_, fun j z e => ?_⟩
  · rw [upd_ne (ne_of_none e c)]; exact S.ext.g r u e
  · rw [upd_ne (ne_of_none e b)]; exact S.ext.h r u e
  · rcases get_set e with ⟨rfl, hl, q⟩ | ⟨hn, q⟩
    · injection q with q; cases q
    · exact S.dat j z q
  · rcases get_set e with ⟨rfl, hl, e⟩ | ⟨hn, e⟩
    · injection e with e; injection e with e; subst e
      obtain ⟨v, hv⟩ := hs
      exact ⟨v, hv, h v hv⟩
    · obtain ⟨v, a, b⟩ := S.tre j z e
      exact ⟨v, a, b.keep (Same.refl F) (keep j (Ne.symm hn))⟩
  · obtain ⟨x1, x2, u', x3, x4⟩ := S.fre j p hp
    refine ⟨x1, x2, ?_⟩
    by_cases z : p = q
    · subst z; exact ⟨o, upd_same, ho⟩
    · exact ⟨u', by rw [upd_ne z]; exact x3, x4⟩
  · rcases get_set e with ⟨rfl, hl, q⟩ | ⟨hn, q⟩
    · injection q with q; cases q
    · exact S.lck j z q
  · rcases get_set e with ⟨rfl, hl, q⟩ | ⟨hn, q⟩
    · injection q with q; cases q
    · exact S.bor j z q
theorem StR.mut (S : StR K F0 H0 F H σ ρ) {i : Nat} {p : Addr} {x y : PD} {o : HO} (hi : ρ[i]? = some (some (Sl.o x))) (hs : σ[i]? = some (some (.ref p))) (h : OwnAt K F (upd H p o) p y) :
    StR K F0 H0 F (upd H p o) σ (ρ.set i (some (Sl.o y))) := by
  obtain ⟨φ, S⟩ := S
  obtain ⟨p', a, b, c, d, _⟩ := S.own i x hi
  rw [hs] at a; cases a
  obtain ⟨u, hu, nu⟩ := h.nt
  rw [upd_same] at hu
  cases hu
  refine ⟨φ, S.mutT (q := p) (by rw [b]; simp) nu (fun v hv => ?_) ⟨_, hs⟩⟩
  rw [hs] at hv; cases hv
  rw [b]; exact .own h
def frz1 (i : Nat) (ρ : Rho) : Rho := match ρ[i]? with
  | some (some (Sl.t t)) => (match t.toD with | .ok d => ρ.set i (some (Sl.d d)) | _ => ρ)
  | _ => ρ
theorem StF.frzT (S : StF K F0 H0 F H σ ρ φ) {i : Nat} {t : Tv} {d : PD} (hi : ρ[i]? = some (some (Sl.t t))) (e : t.toD = .ok d) :
    Ext F0 H0 (frzF F H (φ i)) H ∧ Same F (frzF F H (φ i)) ∧ StF K F0 H0 (frzF F H (φ i)) H σ (ρ.set i (some (Sl.d d))) (phi φ i []) := by
  have hs : Same F (frzF F H (φ i)) := frz_f S.same
  have ex : Ext F0 H0 (frzF F H (φ i)) H := by
    refine ⟨S.ext.f.trans hs, frz_g S.same, S.ext.h, fun p hp => ?_⟩
    rcases frz_n hp with q | q | ⟨o, q, t⟩
    · exact S.ext.n p q
    · exact .inr (.inl (S.fre i p q).1)
    · cases e : H0 p with
      | none => exact .inr (.inl rfl)
      | some u =>
        have := S.ext.h p u e
        rw [q] at this
        cases this
        exact .inr (.inr ⟨_, rfl, t⟩)
  obtain ⟨v, a, b⟩ := S.tre i _ hi
  refine ⟨ex, hs, ex, by simpa using S.len, fun j y e1 => ?_, fun j y e1 => ?_, fun j p hp => ?_, fun j => ?_, fun j k p hj hk => ?_, fun j y e1 => ?_, fun j y e1 => ?_⟩
  · rcases get_set e1 with ⟨rfl, hl, q⟩ | ⟨hn, q⟩
    · cases q; exact ⟨v, a, b.frz S.same e⟩
    · obtain ⟨u, a, b⟩ := S.dat j y q
      exact ⟨u, a, b.mono hs⟩
  · rcases get_set e1 with ⟨rfl, hl, q⟩ | ⟨hn, q⟩
    · cases q
    · obtain ⟨u, a, b⟩ := S.tre j y q
      exact ⟨u, a, by rw [phi_ne (Ne.symm hn)]; exact b.keep hs (KeepOn.same (Same.refl H))⟩
  · by_cases c : j = i
    · subst c; rw [phi_same] at hp; cases hp
    · rw [phi_ne c] at hp
      obtain ⟨x1, x2, o, x3, x4⟩ := S.fre j p hp
      refine ⟨x1, ?_, o, x3, x4⟩
      unfold frzF
      rw [if_neg]
      · exact x2
      · rintro (z | ⟨u, z, t⟩)
        · exact c (S.dis j i p hp z)
        · rw [x3] at z; cases z; exact x4 t
  · by_cases c : j = i
    · subst c; rw [phi_same]; exact List.nodup_nil
    · rw [phi_ne c]; exact S.nod j
  · have cj : j ≠ i := fun z => by subst z; rw [phi_same] at hj; cases hj
    have ck : k ≠ i := fun z => by subst z; rw [phi_same] at hk; cases hk
    rw [phi_ne cj] at hj
    rw [phi_ne ck] at hk
    exact S.dis j k p hj hk
  · rcases get_set e1 with ⟨rfl, hl, q⟩ | ⟨hn, q⟩
    · cases q
    · obtain ⟨u, a, b⟩ := S.lck j y q
      exact ⟨u, a, b.mono hs⟩
  · rcases get_set e1 with ⟨rfl, hl, q⟩ | ⟨hn, q⟩
    · cases q
    · obtain ⟨u, fq, a, b⟩ := S.bor j y q
      exact ⟨u, fq, a, b.keep hs (KeepOn.same (Same.refl H0))⟩
theorem StR.frz1 (S : StR K F0 H0 F H σ ρ) (i : Nat) : ∃ F', Ext F0 H0 F' H ∧ Same F F' ∧ StR K F0 H0 F' H σ (frz1 i ρ) := by
  have triv : ∃ F', Ext F0 H0 F' H ∧ Same F F' ∧ StR K F0 H0 F' H σ ρ := ⟨F, S.ext, Same.refl F, S⟩
  unfold DL.frz1
  split
  · rename_i t hi
    split
    · rename_i d e
      obtain ⟨φ, S⟩ := S
      obtain ⟨a, b, c⟩ := S.frzT hi e
      exact ⟨_, a, b, _, c⟩
    · exact triv
  · exact triv
end
end DL
namespace DL
open PySem PySem.Spec PyProof.Rows L2
def ExR (K : PySem.W.Frag) (c : Ec) (cls : Value) (d : Option Addr) (H : Hp) : Prop :=
  cls = .ref (He.ga K c.cls) ∧ ((c.fs = [] ∧ d = none) ∨ ∃ dd, d = some dd ∧ H dd = some (.xd c.fs))
def Fin (K : PySem.W.Frag) (W : WX) (σ : L2.St) (F H : Hp) {α : Type} (r : R α) (P : α → Hp → Hp → Prop) : Prop :=
  match r with
  | .ok x => ∀ F' H', Ext F H F' H' → P x F' H'
  | .exc c => ∀ cls d F' H', Ext F H F' H' → ExR K c cls d H' → W cls d σ H'
  | .bad => False
section
variable {K : PySem.W.Frag} {W : WX} {σ : L2.St} {F H F1 H1 : Hp} {α β : Type}
theorem Fin.mono {r : R α} {P : α → Hp → Hp → Prop} (e : Ext F H F1 H1) (h : Fin K W σ F H r P) : Fin K W σ F1 H1 r P := by
  cases r with
  | ok x => exact fun F' H' q => h F' H' (e.trans q)
  | exc c => exact fun cls d F' H' q => h cls d F' H' (e.trans q)
  | bad => exact h
theorem Fin.imp {r : R α} {P P' : α → Hp → Hp → Prop} (h : Fin K W σ F H r P) (f : ∀ x F' H', Ext F H F' H' → P x F' H' → P' x F' H') : Fin K W σ F H r P' := by
  cases r with
  | ok x => exact fun F' H' q => f x F' H' q (h F' H' q)
  | exc c => exact h
  | bad => exact h
theorem Fin.bind {r : R α} {f : α → R β} {P : β → Hp → Hp → Prop} (h : Fin K W σ F H (r.bind f) P) : Fin K W σ F H r (fun x F1 H1 => Fin K W σ F1 H1 (f x) P) := by
  cases r with
  | ok x => exact fun F' H' q => Fin.mono q h
  | exc c => exact h
  | bad => exact h
theorem Fin.then {r : R α} {f : α → R β} {P : β → Hp → Hp → Prop} {P' : α → Hp → Hp → Prop} (h : Fin K W σ F H (r.bind f) P) (g : ∀ x F1 H1, Ext F H F1 H1 → Fin K W σ F1 H1 (f x) P → P' x F1 H1) : Fin K W σ F H r P' :=
  (Fin.bind h).imp g
theorem Fin.okk (K : PySem.W.Frag) (W : WX) (σ : L2.St) {x : α} {P : α → Hp → Hp → Prop} (s : Same F H) (h : Fin K W σ F H (.ok x) P) : P x F H := h F H (Ext.refl s)
theorem Fin.ok {x : α} {P : α → Hp → Hp → Prop} (s : Same F H) (h : Fin K W σ F H (.ok x) P) : P x F H := h F H (Ext.refl s)
end
def DpQ (K : PySem.W.Frag) (Q : VK) : PD → Hp → Hp → Prop := fun x F' H' => ∀ v, Dp K F' v x → Q v H'
def RpQ (K : PySem.W.Frag) (Q : VK) : PD → Hp → Hp → Prop := fun x F' H' => ∀ v, Rp K F' H' v x → Q v H'
def OwQ (K : PySem.W.Frag) (H : Hp) (Q : VK) : PD → Hp → Hp → Prop := fun x F' H' => ∀ p, H p = none → F' p = none → OwnAt K F' H' p x → Q (.ref p) H'
def BoQ (Q : Bool → Hp → Prop) : Bool → Hp → Hp → Prop := fun b _ H' => Q b H'
def TDe (K : PySem.W.Frag) (W : WX) (t : TE) (g : Rho → R PD) : Prop := ∀ (F0 H0 F H : Hp) (σ : L2.St) (ρ : Rho) (Q : VK), StR K F0 H0 F H σ ρ → Fin K W σ F H (g ρ) (DpQ K Q) → t σ H Q
def TDr (K : PySem.W.Frag) (W : WX) (t : TE) (g : Rho → R PD) : Prop := ∀ (F0 H0 F H : Hp) (σ : L2.St) (ρ : Rho) (Q : VK), StR K F0 H0 F H σ ρ → Fin K W σ F H (g ρ) (RpQ K Q) → t σ H Q
def TDo (K : PySem.W.Frag) (W : WX) (t : TE) (g : Rho → R PD) : Prop := ∀ (F0 H0 F H : Hp) (σ : L2.St) (ρ : Rho) (Q : VK), StR K F0 H0 F H σ ρ → Fin K W σ F H (g ρ) (OwQ K H Q) → t σ H Q
def TDt (K : PySem.W.Frag) (W : WX) (t : TT) (g : Rho → R Bool) : Prop := ∀ (F0 H0 F H : Hp) (σ : L2.St) (ρ : Rho) (Q : Bool → Hp → Prop), StR K F0 H0 F H σ ρ → Fin K W σ F H (g ρ) (BoQ Q) → t σ H Q
def TDa (K : PySem.W.Frag) (W : WX) (t : TA) (g : Rho → R (List PD)) : Prop := ∀ (F0 H0 F H : Hp) (σ : L2.St) (ρ : Rho) (Q : List V → Hp → Prop), StR K F0 H0 F H σ ρ → Fin K W σ F H (g ρ) (fun xs F' H' => ∀ vs, DpAll K F' vs xs → Q vs H') → t σ H Q
def TDq (K : PySem.W.Frag) (W : WX) (t : TA) (g : Rho → R (List PD)) : Prop := ∀ (F0 H0 F H : Hp) (σ : L2.St) (ρ : Rho) (Q : List V → Hp → Prop), StR K F0 H0 F H σ ρ → Fin K W σ F H (g ρ) (fun xs F' H' => ∀ vs, RpAll K F' H' vs xs → Q vs H') → t σ H Q
section
variable {K : PySem.W.Frag} {W : WX} {t ta tb tc : TE} {g ga gb gc : Rho → R PD} {tt : TT}
theorem TDe.r (h : TDe K W t g) : TDr K W t g := fun F0 H0 F H σ ρ Q S q => h F0 H0 F H σ ρ Q S (q.imp fun x F' H' e k v r => k v (.inl r))
def notDict : PD → R PD
  | .list xs => .ok (.list xs)
  | _ => .bad
def eFz (g : Rho → R PD) : Rho → R PD := fun ρ => (g ρ).bind notDict
theorem TDo.e (h : TDo K W t g) : TDe K W t (eFz g) := fun F0 H0 F H σ ρ Q S q => h F0 H0 F H σ ρ Q S (by
  unfold eFz at q
  cases e : g ρ with
  | exc c => rw [e] at q; exact q
  | bad => rw [e] at q; exact q
  | ok x =>
    rw [e] at q
    cases x with
    | list ds =>
      rintro F' H' ex p hp hf ⟨vs, a, b⟩
      have hs : Same F' (upd F' p (.lst vs)) := fun q u e => by rw [upd_ne (ne_of_none e hf)]; exact e
      refine q (upd F' p (.lst vs)) H' ⟨ex.f.trans hs, fun q u r => ?_, ex.h, fun q r => ?_⟩ _ (.lst (.inl upd_same) (b.mono hs))
      · by_cases hq : q = p
        · subst hq; rw [upd_same] at r; rw [← r]; exact a
        · rw [upd_ne hq] at r; exact ex.g q u r
      · by_cases hq : q = p
        · subst hq; exact .inr (.inl hp)
        · rw [upd_ne hq] at r; exact ex.n q r
    | _ => exact q.elim)
theorem TDo.r (h : TDo K W t g) : TDr K W t (eFz g) := h.e.r
def eVar (i : Nat) : Rho → R PD := fun ρ => match ρ[i]? with
  | some (some (.d x)) => .ok x
  | _ => .bad
def rVar (i : Nat) : Rho → R PD := fun ρ => match ρ[i]? with
  | some (some (.d x)) => .ok x
  | some (some (.t (.own x))) => .ok x
  | some (some (.b (.own x))) => .ok x
  | _ => .bad
theorem td_var (i : Nat) : TDe K W (tVar i) (eVar i) := fun F0 H0 F H σ ρ Q S q => by
  unfold eVar at q
  split at q
  · rename_i x e
    obtain ⟨v, a, b⟩ := S.dat i x e
    exact ⟨v, a, q.ok S.same v b⟩
  · exact q.elim
theorem tr_var (i : Nat) : TDr K W (tVar i) (rVar i) := fun F0 H0 F H σ ρ Q S q => by
  unfold rVar at q
  split at q
  · rename_i x e
    obtain ⟨v, a, b⟩ := S.dat i x e
    exact ⟨v, a, q.ok S.same v (.inl b)⟩
  · rename_i x e
    obtain ⟨p, a, _, _, d⟩ := S.own i x e
    exact ⟨_, a, q.ok S.same _ (.inr ⟨p, rfl, d⟩)⟩
  · rename_i x e
    obtain ⟨v, fp, a, b⟩ := S.bor i (.own x) e
    cases b with
    | own h => exact ⟨_, a, q.ok S.same _ (.inr ⟨_, rfl, h.mono (Same.refl F) fun o ho => S.ext.h _ o ho⟩)⟩
  · exact q.elim
def eC (x : PD) : Rho → R PD := fun _ => .ok x
theorem td_int {i : Int} : TDe K W (tC (.int i)) (eC (.int i)) := fun F0 H0 F H σ ρ Q S q => q.ok S.same _ (.int i)
theorem td_str {i : Str} : TDe K W (tC (.str i)) (eC (.str i)) := fun F0 H0 F H σ ρ Q S q => q.ok S.same _ (.str i)
theorem td_bl {i : Bool} : TDe K W (tC (.bl i)) (eC (.bool i)) := fun F0 H0 F H σ ρ Q S q => q.ok S.same _ (.bl i)
theorem td_non : TDe K W (tC .non) (eC .none) := fun F0 H0 F H σ ρ Q S q => q.ok S.same _ .non
def RD (K : PySem.W.Frag) (r : R2) (f : PD → PD → R PD) : Prop := ∀ (W : WX) (σ : L2.St) (F H : Hp) (x y : V) (a b : PD) (Q : VK), Same F H → Rp K F H x a → Rp K F H y b → Fin K W σ F H (f a b) (DpQ K Q) → r x y H Q
def RU (K : PySem.W.Frag) (r : V → Hp → VK → Prop) (f : PD → R PD) : Prop := ∀ (W : WX) (σ : L2.St) (F H : Hp) (x : V) (a : PD) (Q : VK), Same F H → Rp K F H x a → Fin K W σ F H (f a) (DpQ K Q) → r x H Q
def eOp (f : PD → PD → R PD) (ga gb : Rho → R PD) : Rho → R PD := fun ρ => (ga ρ).bind fun a => (gb ρ).bind fun b => f a b
def eUn (f : PD → R PD) (ga : Rho → R PD) : Rho → R PD := fun ρ => (ga ρ).bind f
variable {r r' : R2} {f f' : PD → PD → R PD}
theorem td_op (hr : RD K r f) (ha : TDr K W ta ga) (hb : TDr K W tb gb) : TDe K W (tOp r ta tb) (eOp f ga gb) := fun F0 H0 F H σ ρ Q S q =>
  ha F0 H0 F H σ ρ _ S (q.then fun a F1 H1 e1 k1 v rv => hb F0 H0 F1 H1 σ ρ _ (S.go e1) (k1.then fun b F2 H2 e2 k2 u ru =>
    hr W σ F2 H2 v u a b Q e2.g (rv.ext e2.f e2.h) ru k2))
theorem td_un {r : V → Hp → VK → Prop} {f : PD → R PD} (hr : RU K r f) (ha : TDr K W ta ga) : TDe K W (tUn r ta) (eUn f ga) := fun F0 H0 F H σ ρ Q S q =>
  ha F0 H0 F H σ ρ _ S (q.then fun a F1 H1 e1 k1 v rv => hr W σ F1 H1 v a Q e1.g rv k1)
theorem RD.or {g : PD → PD → R PD} (h : ∀ (W : WX) (σ : L2.St) (F H : Hp) (x y : V) (a b : PD) (Q : VK), Same F H → Rp K F H x a → Rp K F H y b → Fin K W σ F H (g a b) (DpQ K Q) → r x y H Q ∨ r' x y H Q) :
    RD K (fun x y H Q => r x y H Q ∨ r' x y H Q) g := h
def asB : PD → R Bool
  | .bool b => .ok b
  | _ => .bad
def bOf (g : Rho → R PD) : Rho → R Bool := fun ρ => (g ρ).bind asB
theorem asB_q {Q : Bool → Hp → Prop} {F1 H1 : Hp} {σ : L2.St} {a : PD} {v : V} (s : Same F1 H1) (r : Rp K F1 H1 v a) (k : Fin K W σ F1 H1 (asB a) (BoQ Q)) : ∃ c, v = .bl c ∧ Q c H1 := by
  cases a with
  | bool b =>
    have e := r.bool
    exact ⟨b, e, k.ok s⟩
  | _ => exact k.elim
theorem tt_test (h : TDr K W t g) : TDt K W (tTest t) (bOf g) := fun F0 H0 F H σ ρ Q S q =>
  h F0 H0 F H σ ρ _ S (q.then fun a F1 H1 e1 k1 v rv => asB_q e1.g rv k1)
theorem tt_B (h : TDr K W t g) : TDt K W (tB t) (bOf g) := fun F0 H0 F H σ ρ Q S q =>
  h F0 H0 F H σ ρ _ S (q.then fun a F1 H1 e1 k1 v rv => asB_q e1.g rv k1)
variable {t1 t2 : TT} {g1 g2 : Rho → R Bool}
def bAnd (g1 g2 : Rho → R Bool) : Rho → R Bool := fun ρ => (g1 ρ).bind fun c => if c = true then g2 ρ else .ok false
def bOr (g1 g2 : Rho → R Bool) : Rho → R Bool := fun ρ => (g1 ρ).bind fun c => if c = true then .ok true else g2 ρ
def bNot (g1 : Rho → R Bool) : Rho → R Bool := fun ρ => (g1 ρ).bind fun c => .ok !c
theorem tt_and (h1 : TDt K W t1 g1) (h2 : TDt K W t2 g2) : TDt K W (tAnd t1 t2) (bAnd g1 g2) := fun F0 H0 F H σ ρ Q S q =>
  h1 F0 H0 F H σ ρ _ S (q.then fun c F1 H1 e1 k1 => by
    cases c with
    | true => exact h2 F0 H0 F1 H1 σ ρ Q (S.go e1) k1
    | false => exact Fin.okk (x := false) K W σ e1.g k1)
theorem tt_or (h1 : TDt K W t1 g1) (h2 : TDt K W t2 g2) : TDt K W (tOr t1 t2) (bOr g1 g2) := fun F0 H0 F H σ ρ Q S q =>
  h1 F0 H0 F H σ ρ _ S (q.then fun c F1 H1 e1 k1 => by
    cases c with
    | false => exact h2 F0 H0 F1 H1 σ ρ Q (S.go e1) k1
    | true => exact Fin.okk (x := true) K W σ e1.g k1)
theorem tt_not (h1 : TDt K W t1 g1) : TDt K W (tNot t1) (bNot g1) := fun F0 H0 F H σ ρ Q S q =>
  h1 F0 H0 F H σ ρ _ S (q.then fun c F1 H1 e1 k1 => Fin.okk (x := !c) K W σ e1.g k1)
def eAnd (ga gb : Rho → R PD) : Rho → R PD := fun ρ => (ga ρ).bind fun a => (asB a).bind fun c => if c = true then gb ρ else .ok (.bool false)
def eOr (ga gb : Rho → R PD) : Rho → R PD := fun ρ => (ga ρ).bind fun a => (asB a).bind fun c => if c = true then .ok (.bool true) else gb ρ
def eNot (ga : Rho → R PD) : Rho → R PD := fun ρ => (ga ρ).bind fun a => (asB a).bind fun c => .ok (.bool !c)
theorem asB_k {P : PD → Hp → Hp → Prop} {F1 H1 : Hp} {σ : L2.St} {a : PD} {v : V} {k : Bool → R PD} (s : Same F1 H1) (r : Rp K F1 H1 v a) (h : Fin K W σ F1 H1 ((asB a).bind k) P) : ∃ c, v = .bl c ∧ Fin K W σ F1 H1 (k c) P := by
  cases a with
  | bool b => exact ⟨b, r.bool, h⟩
  | _ => exact h.elim
theorem td_and (ha : TDr K W ta ga) (hb : TDe K W tb gb) : TDe K W (tAndV ta tb) (eAnd ga gb) := fun F0 H0 F H σ ρ Q S q =>
  ha F0 H0 F H σ ρ _ S (q.then fun a F1 H1 e1 k1 v rv => by
    obtain ⟨c, e, k2⟩ := asB_k e1.g rv k1
    refine ⟨c, e, ?_⟩
    cases c with
    | true => exact hb F0 H0 F1 H1 σ ρ Q (S.go e1) k2
    | false => exact Fin.okk (x := PyData.bool false) K W σ e1.g k2 _ (.bl false))
def eIf (gt : Rho → R Bool) (ga gb : Rho → R PD) : Rho → R PD := fun ρ => (gt ρ).bind fun c => if c = true then ga ρ else gb ρ
def eChain (f f' : PD → PD → R PD) (ga gb gc : Rho → R PD) : Rho → R PD := fun ρ => (ga ρ).bind fun a => (gb ρ).bind fun b => (f a b).bind fun z => (asB z).bind fun k => if k = true then (gc ρ).bind fun c => f' b c else .ok (.bool false)
theorem td_chain (hr : RD K r f) (hr' : RD K r' f') (ha : TDr K W ta ga) (hb : TDr K W tb gb) (hc : TDr K W tc gc) : TDe K W (tChain r r' ta tb tc) (eChain f f' ga gb gc) := fun F0 H0 F H σ ρ Q S q =>
  ha F0 H0 F H σ ρ _ S (q.then fun a F1 H1 e1 k1 v rv => hb F0 H0 F1 H1 σ ρ _ (S.go e1) (k1.then fun b F2 H2 e2 k2 u ru =>
    hr W σ F2 H2 v u a b _ e2.g (rv.ext e2.f e2.h) ru (k2.then fun z F3 H3 e3 k3 zv rz => by
      obtain ⟨c, e, k4⟩ := asB_k e3.g (.inl rz) k3
      refine ⟨c, e, ?_⟩
      cases c with
      | false => exact Fin.okk (x := PyData.bool false) K W σ e3.g k4 _ (.bl false)
      | true => exact hc F0 H0 F3 H3 σ ρ _ (((S.go e1).go e2).go e3) (k4.then fun w F4 H4 e4 k5 wv rw' =>
          hr' W σ F4 H4 u wv b w Q e4.g ((ru.ext e3.f e3.h).ext e4.f e4.h) rw' k5))))
def aNil : Rho → R (List PD) := fun _ => .ok []
def aCons (ga : Rho → R PD) (gr : Rho → R (List PD)) : Rho → R (List PD) := fun ρ => (ga ρ).bind fun a => (gr ρ).bind fun l => .ok (a :: l)
variable {tr : TA} {gr : Rho → R (List PD)}
theorem ta_nil : TDa K W tNil aNil := fun F0 H0 F H σ ρ Q S q => q.ok S.same _ .nil
theorem ta_cons (ha : TDe K W ta ga) (hr : TDa K W tr gr) : TDa K W (tCons ta tr) (aCons ga gr) := fun F0 H0 F H σ ρ Q S q =>
  ha F0 H0 F H σ ρ _ S (q.then fun a F1 H1 e1 k1 v rv => hr F0 H0 F1 H1 σ ρ _ (S.go e1) (k1.then fun l F2 H2 e2 k2 vs rs => k2.ok e2.g _ (.cons (rv.mono e2.f) rs)))
theorem tq_nil : TDq K W tNil aNil := fun F0 H0 F H σ ρ Q S q => q.ok S.same _ .nil
theorem tq_cons (ha : TDr K W ta ga) (hr : TDq K W tr gr) : TDq K W (tCons ta tr) (aCons ga gr) := fun F0 H0 F H σ ρ Q S q =>
  ha F0 H0 F H σ ρ _ S (q.then fun a F1 H1 e1 k1 v rv => hr F0 H0 F1 H1 σ ρ _ (S.go e1) (k1.then fun l F2 H2 e2 k2 vs rs => k2.ok e2.g _ (.cons (rv.ext e2.f e2.h) rs)))
def eTup (gr : Rho → R (List PD)) : Rho → R PD := fun ρ => (gr ρ).bind fun l => if l.length ≤ sizeLine then .ok (.tuple l) else .bad
def oLst (gr : Rho → R (List PD)) : Rho → R PD := fun ρ => (gr ρ).bind fun l => if l.length ≤ sizeLine then .ok (.list l) else .bad
theorem td_tup (hr : TDa K W tr gr) : TDe K W (tTup tr) (eTup gr) := fun F0 H0 F H σ ρ Q S q =>
  hr F0 H0 F H σ ρ _ S (q.then fun l F1 H1 e1 k1 vs rs => by
    by_cases hl : l.length ≤ sizeLine
    · rw [if_pos hl] at k1
      refine ⟨by rw [rs.length]; exact hl, fun p hp => ?_⟩
      have e2 := Ext.new (o := .tup vs) e1.g hp
      exact k1 _ _ e2 _ (.tup upd_same (rs.mono e2.f))
    · rw [if_neg hl] at k1
      exact k1.elim)
theorem to_lst (hr : TDa K W tr gr) : TDo K W (tLst tr) (oLst gr) := fun F0 H0 F H σ ρ Q S q =>
  hr F0 H0 F H σ ρ _ S (q.then fun l F1 H1 e1 k1 vs rs => by
    by_cases hl : l.length ≤ sizeLine
    · rw [if_pos hl] at k1
      refine ⟨by rw [rs.length]; exact hl, fun p hp => ?_⟩
      have e2 := Ext.own (o := .lst vs) e1.g hp
      exact k1 _ _ e2 p (e1.h.free hp) (e1.g.free hp) ⟨vs, upd_same, rs⟩
    · rw [if_neg hl] at k1
      exact k1.elim)
end
inductive SR where
  | nx (ρ : Rho)
  | rt (s : Sl)
  | bk (ρ : Rho)
  | ct (ρ : Rho)
  | exc (c : Ec)
  | bad
def SR.seq (a : SR) (k : Rho → SR) : SR := match a with
  | .nx ρ => k ρ
  | s => s
def SR.of {α : Type} (r : R α) (k : α → SR) : SR := match r with
  | .ok a => k a
  | .exc c => .exc c
  | .bad => .bad
def RetQ (K : PySem.W.Frag) (F0 H0 : Hp) (Q : VK) : Sl → Prop
  | .d x => ∀ v F H, Ext F0 H0 F H → Dp K F v x → Q v H
  | .t x => ∀ v fp F H, Ext F0 H0 F H → TvAt K F H fp v x → fp.Nodup → (∀ p ∈ fp, H0 p = none ∧ F p = none) → Q v H
  | .l _ => False
  | .b _ => False
def FinS (K : PySem.W.Frag) (W : WX) (F0 H0 : Hp) (D : Ends) : SR → Prop
  | .nx ρ => ∀ σ F H, StR K F0 H0 F H σ ρ → D.nx σ H
  | .bk ρ => ∀ σ F H, StR K F0 H0 F H σ ρ → D.bk σ H
  | .ct ρ => ∀ σ F H, StR K F0 H0 F H σ ρ → D.ct σ H
  | .rt s => RetQ K F0 H0 D.rt s
  | .exc c => ∀ cls d σ F H, Ext F0 H0 F H → ExR K c cls d H → W cls d σ H
  | .bad => False
def TDS (K : PySem.W.Frag) (W : WX) (t : TS) (s : Rho → SR) : Prop := ∀ (F0 H0 F H : Hp) (σ : L2.St) (ρ : Rho) (D : Ends), StR K F0 H0 F H σ ρ → FinS K W F0 H0 D (s ρ) → t D σ H
section
variable {K : PySem.W.Frag} {W : WX} {F0 H0 F H : Hp} {D D' : Ends} {σ : L2.St} {ρ : Rho}
theorem FinS.of {α : Type} {r : R α} {k : α → SR} {P : α → Hp → Hp → Prop} (b : Ext F0 H0 F H) (h : FinS K W F0 H0 D (SR.of r k)) (f : ∀ x F1 H1, Ext F H F1 H1 → FinS K W F0 H0 D (k x) → P x F1 H1) : Fin K W σ F H r P := by
  cases r with
  | ok x => exact fun F1 H1 e => f x F1 H1 e h
  | exc c => exact fun cls d F1 H1 e q => h cls d σ F1 H1 (b.trans e) q
  | bad => exact h
theorem FinS.rebase {s : SR} (b : Ext F0 H0 F H) (h : FinS K W F0 H0 D s) : FinS K W F H0 D s := by
  cases s with
  | nx ρ => exact fun σ F1 H1 S => h σ F1 H1 (S.unbase b)
  | bk ρ => exact fun σ F1 H1 S => h σ F1 H1 (S.unbase b)
  | ct ρ => exact fun σ F1 H1 S => h σ F1 H1 (S.unbase b)
  | rt s =>
    cases s with
    | d x => exact fun v F1 H1 e q => h v F1 H1 (b.base e) q
    | t x => exact fun v fp F1 H1 e q1 q2 q3 => h v fp F1 H1 (b.base e) q1 q2 q3
    | l x => exact h
    | b x => exact h
  | exc c => exact fun cls d σ F1 H1 e q => h cls d σ F1 H1 (b.base e) q
  | bad => exact h
theorem SR.seq_fin {s : SR} {k : Rho → SR} (h : FinS K W F0 H0 D (s.seq k)) (hn : ∀ ρ σ F H, StR K F0 H0 F H σ ρ → FinS K W F0 H0 D (k ρ) → D'.nx σ H) (e1 : D'.rt = D.rt) (e2 : D'.bk = D.bk) (e3 : D'.ct = D.ct) : FinS K W F0 H0 D' s := by
  cases s with
  | nx ρ => exact fun σ F H S => hn ρ σ F H S h
  | bk ρ => exact fun σ F H S => by rw [e2]; exact h σ F H S
  | ct ρ => exact fun σ F H S => by rw [e3]; exact h σ F H S
  | rt s =>
    show RetQ K F0 H0 D'.rt s
    rw [e1]; exact h
  | exc c => exact h
  | bad => exact h
end
section
variable {K : PySem.W.Frag} {W : WX} {t u : TS} {s s' : Rho → SR} {te : TE} {g : Rho → R PD} {tt : TT} {gt : Rho → R Bool}
def sNext : Rho → SR := .nx
theorem ds_next : TDS K W tNext sNext := fun F0 H0 F H σ ρ D S q => q σ F H S
def sSeq (s s' : Rho → SR) : Rho → SR := fun ρ => (s ρ).seq s'
theorem ds_seq (h : TDS K W t s) (h' : TDS K W u s') : TDS K W (tSeq t u) (sSeq s s') := fun F0 H0 F H σ ρ D S q =>
  h F0 H0 F H σ ρ _ S (SR.seq_fin (D' := { D with nx := u D }) q (fun ρ1 σ1 F1 H1 S1 q1 => h' F0 H0 F1 H1 σ1 ρ1 D S1 q1) rfl rfl rfl)
def sBreak : Rho → SR := .bk
def sCont : Rho → SR := .ct
def sFrz (is : List Nat) (s : Rho → SR) : Rho → SR := fun ρ => s (is.foldl (fun ρ i => frz1 i ρ) ρ)
theorem ds_frz (is : List Nat) (h : TDS K W t s) : TDS K W t (sFrz is s) := by
  unfold sFrz
  induction is with
  | nil => exact h
  | cons i is ih =>
    intro F0 H0 F H σ ρ D S q
    obtain ⟨F', e, _, S'⟩ := S.frz1 i
    exact ih F0 H0 F' H σ _ D S' q
def sRet (g : Rho → R PD) : Rho → SR := fun ρ => SR.of (g ρ) fun x => .rt (.d x)
def sRetO (g : Rho → R PD) : Rho → SR := fun ρ => SR.of (g ρ) fun x => .rt (.o x)
def sRetV (i : Nat) : Rho → SR := fun ρ => match ρ[i]? with
  | some (some s) => .rt s
  | _ => .bad
theorem ds_ret (h : TDe K W te g) : TDS K W (tRet te) (sRet g) := fun F0 H0 F H σ ρ D S q =>
  h F0 H0 F H σ ρ _ S (q.of S.ext fun x F1 H1 e k v r => k v F1 H1 (S.ext.trans e) r)
theorem RetQ.own {F0 H0 : Hp} {Q : VK} {x : PD} (h : RetQ K F0 H0 Q (.o x)) : ∀ p F H, Ext F0 H0 F H → H0 p = none → F p = none → OwnAt K F H p x → Q (.ref p) H :=
  fun p F H e h1 h2 h3 => h (.ref p) [p] F H e (.own h3) (by simp) fun q hq => by rw [List.mem_singleton.mp hq]; exact ⟨h1, h2⟩
theorem ds_retV (i : Nat) : TDS K W (tRet (tVar i)) (sRetV i) := fun F0 H0 F H σ ρ D S q => by
  unfold sRetV at q
  split at q
  · rename_i s e
    cases s with
    | d x =>
      obtain ⟨v, a, b⟩ := S.dat i x e
      exact ⟨v, a, q v F H S.ext b⟩
    | t x =>
      obtain ⟨φ, S⟩ := S
      obtain ⟨v, a, b⟩ := S.tre i x e
      exact ⟨_, a, q v (φ i) F H S.ext b (S.nod i) fun p hp => let ⟨x1, x2, _⟩ := S.fre i p hp; ⟨x1, x2⟩⟩
    | l x => exact q.elim
    | b x => exact q.elim
  · exact q.elim
def sIf (gt : Rho → R Bool) (s s' : Rho → SR) : Rho → SR := fun ρ => SR.of (gt ρ) fun c => if c = true then s ρ else s' ρ
theorem ds_if (ht : TDt K W tt gt) (h : TDS K W t s) (h' : TDS K W u s') : TDS K W (tIfS tt t u) (sIf gt s s') := fun F0 H0 F H σ ρ D S q =>
  ht F0 H0 F H σ ρ _ S (q.of S.ext fun c F1 H1 e k => by
    cases c with
    | true => exact h F0 H0 F1 H1 σ ρ D (S.go e) k
    | false => exact h' F0 H0 F1 H1 σ ρ D (S.go e) k)
def sDrop (g : Rho → R PD) : Rho → SR := fun ρ => SR.of (g ρ) fun _ => .nx ρ
theorem ds_drop (h : TDe K W te g) : TDS K W (tDrop te) (sDrop g) := fun F0 H0 F H σ ρ D S q =>
  h F0 H0 F H σ ρ _ S (q.of S.ext fun x F1 H1 e k v r => k σ F1 H1 (S.go e))
def TDg (K : PySem.W.Frag) (vs : List Nat) (g : TG) (a : Rho → PD → R Rho) : Prop := ∀ (F0 H0 F H : Hp) (σ : L2.St) (ρ : Rho) (v : V) (x : PD) (Q : L2.St → Hp → Prop), StR K F0 H0 F H σ ρ → Dp K F v x →
  (match a ρ x with | .ok ρ' => ∀ σ', StR K F0 H0 F H σ' ρ' → wipe σ' vs = wipe σ vs → Q σ' H | _ => False) → g v σ H Q
def TDgs (K : PySem.W.Frag) (vs : List Nat) (g : TGs) (a : Rho → List PD → R Rho) : Prop := ∀ (F0 H0 F H : Hp) (σ : L2.St) (ρ : Rho) (us : List V) (xs : List PD) (Q : L2.St → Hp → Prop), StR K F0 H0 F H σ ρ → DpAll K F us xs →
  (match a ρ xs with | .ok ρ' => ∀ σ', StR K F0 H0 F H σ' ρ' → wipe σ' vs = wipe σ vs → Q σ' H | _ => False) → g us σ H Q
theorem wipe_set {σ : L2.St} {i : Nat} {x : Option V} : ∀ {vs : List Nat}, i ∈ vs → wipe (σ.set i x) vs = wipe σ vs
  | [], h => by cases h
  | v :: vs, h => by
    unfold wipe
    by_cases hm : i ∈ vs
    · rw [wipe_set hm]
    · have e : v = i := by
        rcases List.mem_cons.mp h with z | z
        · exact z.symm
        · exact absurd z hm
      subst e
      have go : ∀ {us : List Nat}, v ∉ us → wipe (σ.set v x) us = (wipe σ us).set v x := by
        intro us
        induction us with
        | nil => intro _; rfl
        | cons u us ih =>
          intro hn
          simp only [List.mem_cons, not_or] at hn
          unfold wipe
          rw [ih hn.2, List.set_comm _ _ hn.1]
      rw [go hm, List.set_set]
def aName (i : Nat) : Rho → PD → R Rho := fun ρ x => .ok (ρ.set i (some (.d x)))
theorem dg_name (i : Nat) {vs : List Nat} (h : i ∈ vs := by decide) : TDg K vs (gName i) (aName i) := fun F0 H0 F H σ ρ v x Q S r q => q _ (S.setD r) (wipe_set h)
def asNil : Rho → List PD → R Rho := fun ρ xs => match xs with
  | [] => .ok ρ
  | _ => .bad
def asCons (a : Rho → PD → R Rho) (b : Rho → List PD → R Rho) : Rho → List PD → R Rho := fun ρ xs => match xs with
  | x :: xs => (a ρ x).bind fun ρ' => b ρ' xs
  | [] => .bad
theorem dgs_nil {vs : List Nat} : TDgs K vs gNil asNil := fun F0 H0 F H σ ρ us xs Q S r q => by
  cases r with
  | nil => exact ⟨rfl, q σ S rfl⟩
  | cons _ _ => exact q.elim
theorem dgs_cons {vs : List Nat} {gx : TG} {gs : TGs} {a : Rho → PD → R Rho} {b : Rho → List PD → R Rho} (h : TDg K vs gx a) (hs : TDgs K vs gs b) : TDgs K vs (gCons gx gs) (asCons a b) := fun F0 H0 F H σ ρ us xs Q S r q => by
  cases r with
  | nil => exact q.elim
  | cons r1 r2 =>
    refine ⟨_, _, rfl, h F0 H0 F H σ ρ _ _ _ S r1 ?_⟩
    rename_i v us x xs
    have q : (match (a ρ x).bind fun ρ' => b ρ' xs with | .ok ρ' => ∀ σ', StR K F0 H0 F H σ' ρ' → wipe σ' vs = wipe σ vs → Q σ' H | _ => False) := q
    cases e : a ρ x with
    | ok ρ1 =>
      rw [e] at q
      intro σ1 S1 w1
      refine hs F0 H0 F H σ1 ρ1 _ _ _ S1 r2 ?_
      have q : (match b ρ1 xs with | .ok ρ' => ∀ σ', StR K F0 H0 F H σ' ρ' → wipe σ' vs = wipe σ vs → Q σ' H | _ => False) := q
      cases e2 : b ρ1 xs with
      | ok ρ2 => rw [e2] at q; exact fun σ2 S2 w2 => q σ2 S2 (w2.trans w1)
      | exc c => rw [e2] at q; exact q.elim
      | bad => rw [e2] at q; exact q.elim
    | exc c => rw [e] at q; exact q.elim
    | bad => rw [e] at q; exact q.elim
def aTup (n : Nat) (b : Rho → List PD → R Rho) : Rho → PD → R Rho := fun ρ x => match x with
  | .tuple xs => if xs.length = n then b ρ xs else .bad
  | _ => .bad
theorem dg_tup {vs : List Nat} {n : Nat} {gs : TGs} {b : Rho → List PD → R Rho} (hs : TDgs K vs gs b) : TDg K vs (gTup K n gs) (aTup n b) := fun F0 H0 F H σ ρ v x Q S r q => by
  unfold aTup at q
  cases r with
  | tup s a =>
    simp only at q
    split at q
    · rename_i e
      split at e
      · rename_i hl
        refine ⟨_, _, rfl, SqT.of (S.same _ _ s), by rw [a.length]; exact hl, hs F0 H0 F H σ ρ _ _ _ S a ?_⟩
        rw [e]; exact q
      · cases e
    · exact q.elim
  | _ => exact q.elim
def SR.ofT : R Rho → SR
  | .ok ρ => .nx ρ
  | _ => .bad
def sAsg (g : Rho → R PD) (a : Rho → PD → R Rho) : Rho → SR := fun ρ => SR.of (g ρ) fun x => SR.ofT (a ρ x)
theorem ds_asg {vs : List Nat} {gx : TG} {a : Rho → PD → R Rho} (h : TDe K W te g) (hg : TDg K vs gx a) : TDS K W (tAsg te gx) (sAsg g a) := fun F0 H0 F H σ ρ D S q =>
  h F0 H0 F H σ ρ _ S (q.of S.ext fun x F1 H1 e k v r => hg F0 H0 F1 H1 σ ρ v x _ (S.go e) r (by
    have k : FinS K W F0 H0 D (SR.ofT (a ρ x)) := k
    cases e : a ρ x with
    | ok ρ1 => rw [e] at k; exact fun σ1 S1 _ => k σ1 F1 H1 S1
    | exc c => rw [e] at k; exact k
    | bad => rw [e] at k; exact k))
def sSetO (i : Nat) (g : Rho → R PD) : Rho → SR := fun ρ => SR.of (g ρ) fun x => .nx (ρ.set i (some (.o x)))
def sSet (i : Nat) (g : Rho → R PD) : Rho → SR := fun ρ => SR.of (g ρ) fun x => .nx (ρ.set i (some (.d x)))
theorem ds_set (i : Nat) (h : TDe K W te g) : TDS K W (tAsg te (gName i)) (sSet i g) := fun F0 H0 F H σ ρ D S q =>
  h F0 H0 F H σ ρ _ S (q.of S.ext fun x F1 H1 e k v r => k _ F1 H1 ((S.go e).setD r))
theorem ds_setO (i : Nat) (h : TDo K W te g) : TDS K W (tAsg te (gName i)) (sSetO i g) := fun F0 H0 F H σ ρ D S q =>
  h F0 H0 F H σ ρ _ S (q.of S.ext fun x F1 H1 e k p hp hf ho => k _ F1 H1 (S.setN e hp hf ho))
end
end DL
namespace DL
open PySem PySem.Spec PyProof.Rows L2
def ItR (K : PySem.W.Frag) (F H0 : Hp) (ds : List PD) (J : It) : Prop := ∀ (i : Nat) (F1 H1 : Hp), Same F F1 → Same F1 H1 → Same H0 H1 →
  (∀ d, ds[i]? = some d → J.go i H1 ∧ ∀ x H2, J.yld i H1 x H2 → ∃ F2, Ext F1 H1 F2 H2 ∧ Dp K F2 x d) ∧ (ds.length ≤ i → J.stop i H1)
def TDi (K : PySem.W.Frag) (W : WX) (wi : TI) (gi : Rho → R (List PD)) : Prop := ∀ (F0 H0 F H : Hp) (σ : L2.St) (ρ : Rho) (Q : It → Hp → Prop), StR K F0 H0 F H σ ρ → Fin K W σ F H (gi ρ) (fun ds F' H' => ∀ J, ItR K F' H0 ds J → Q J H') → wi σ H Q
theorem itr_list {K : PySem.W.Frag} {F H0 : Hp} {a : Addr} {vs : List V} {ds : List PD} (s : SqL K F a vs) (r : DpAll K F vs ds) : ItR K F H0 ds (Itl K a) := fun i F1 H1 e1 e2 _ => by
  have s1 := seqL (e1.trans e2) s
  refine ⟨fun d hd => ?_, fun hl => ⟨vs, s1, by rw [r.length]; exact hl⟩⟩
  obtain ⟨v, hv, rv⟩ := r.get' hd
  refine ⟨⟨vs, v, s1, hv⟩, fun x H2 y => ?_⟩
  obtain ⟨rfl, y⟩ := y
  have e := y vs s1
  rw [hv] at e; cases e
  exact ⟨F1, Ext.refl e2, rv.mono e1⟩
theorem itr_tup {K : PySem.W.Frag} {F H0 : Hp} {a : Addr} {vs : List V} {ds : List PD} (s : SqT K F a vs) (r : DpAll K F vs ds) : ItR K F H0 ds (Itt K a) := fun i F1 H1 e1 e2 _ => by
  have s1 := seqT (e1.trans e2) s
  refine ⟨fun d hd => ?_, fun hl => ⟨vs, s1, by rw [r.length]; exact hl⟩⟩
  obtain ⟨v, hv, rv⟩ := r.get' hd
  refine ⟨⟨vs, v, s1, hv⟩, fun x H2 y => ?_⟩
  obtain ⟨rfl, y⟩ := y
  have e := y vs s1
  rw [hv] at e; cases e
  exact ⟨F1, Ext.refl e2, rv.mono e1⟩
def signs (x : Str) : List PD := x.cps.toList.map fun c => .str ⟨#[c]⟩
theorem itr_str {K : PySem.W.Frag} {F H0 : Hp} {x : Str} : ItR K F H0 (signs x) (Its x) := fun i F1 H1 e1 e2 _ => by
  refine ⟨fun d hd => ?_, fun hl => by simpa [signs, Its] using hl⟩
  unfold signs at hd
  rw [List.getElem?_map] at hd
  cases e : x.cps.toList[i]? with
  | none => rw [e] at hd; cases hd
  | some c =>
    rw [e] at hd
    have hd : PyData.str ⟨#[c]⟩ = d := Option.some.inj hd
    subst hd
    have hc : x.cps[i]? = some c := by simpa using e
    refine ⟨(Array.getElem?_eq_some_iff.mp hc).1, fun v H2 y => ?_⟩
    obtain ⟨rfl, c', h', rfl⟩ := y
    rw [hc] at h'; cases h'
    exact ⟨F1, Ext.refl e2, .str _⟩
def rngD (lo : Int) (n : Nat) : List PD := (List.range n).map fun i => .int (lo + (i : Nat))
theorem itr_rng {K : PySem.W.Frag} {F H0 : Hp} {lo : Int} {n : Nat} : ItR K F H0 (rngD lo n) (Itr lo n) := fun i F1 H1 e1 e2 _ => by
  refine ⟨fun d hd => ?_, fun hl => by simpa [rngD, Itr] using hl⟩
  unfold rngD at hd
  rw [List.getElem?_map] at hd
  by_cases hn : i < n
  · rw [List.getElem?_range hn] at hd
    cases hd
    refine ⟨hn, fun v H2 y => ?_⟩
    obtain ⟨rfl, rfl⟩ := y
    exact ⟨F1, Ext.refl e2, .int _⟩
  · rw [List.getElem?_eq_none (by simpa using hn)] at hd; cases hd
def enumD (ds : List PD) : List PD := ds.zipIdx.map fun p => .tuple [.int (p.2 : Nat), p.1]
theorem enum_at {ds : List PD} {i : Nat} {d : PD} (h : (enumD ds)[i]? = some d) : ∃ x, ds[i]? = some x ∧ d = .tuple [.int (i : Nat), x] := by
  unfold enumD at h
  rw [List.getElem?_map, List.getElem?_zipIdx] at h
  cases e : ds[i]? with
  | none => rw [e] at h; cases h
  | some x =>
    rw [e] at h
    refine ⟨x, rfl, ?_⟩
    have h := (Option.some.inj h).symm
    simpa using h
theorem itr_enum {K : PySem.W.Frag} {F H0 : Hp} {a : Addr} {vs : List V} {ds : List PD} (s : SqL K F a vs) (r : DpAll K F vs ds) : ItR K F H0 (enumD ds) (Ite K a) := fun i F1 H1 e1 e2 _ => by
  have s1 := seqL (e1.trans e2) s
  refine ⟨fun d hd => ?_, fun hl => ⟨vs, s1, by rw [r.length]; simpa [enumD] using hl⟩⟩
  obtain ⟨x, hx, rfl⟩ := enum_at hd
  obtain ⟨v, hv, rv⟩ := r.get' hx
  refine ⟨⟨vs, v, s1, hv⟩, fun x' H2 y => ?_⟩
  obtain ⟨T, u, rfl, hT, rfl, y⟩ := y
  have e := y vs s1
  rw [hv] at e; cases e
  have ex := Ext.new (o := .tup [.int (i : Nat), v]) e2 hT
  exact ⟨_, ex, .tup upd_same (.cons (.int _) (.cons (rv.mono (e1.trans ex.f)) .nil))⟩
def zipD (ds es : List PD) : List PD := (ds.zip es).map fun p => .tuple [p.1, p.2]
def iSeq (K : PySem.W.Frag) (tl : TE) : TI := fun σ H R => tl σ H fun x H1 => (∃ a, x = .ref a ∧ (∃ xs, SqL K H1 a xs) ∧ R (Itl K a) H1) ∨ (∃ a, x = .ref a ∧ (∃ xs, SqT K H1 a xs) ∧ R (Itt K a) H1) ∨ ∃ z, x = .str z ∧ R (Its z) H1
theorem pi_seq {X : Cx} {tg l : Expr} {tl : TE} (hl : PE X l tl) : PI X tg l (iSeq X.K tl) := by
  refine ⟨fun pn s σ H0 R I h => ?_⟩
  refine thn (hl.run pn s σ H0 _ I h) fun v t1 ⟨x, G1, J1, k1, q1⟩ => ?_
  rcases q1 with ⟨a, e, ⟨xs, hq⟩, q⟩ | ⟨a, e, ⟨xs, hq⟩, q⟩ | ⟨z, ex, q⟩
  · subst e
    cases k1
    obtain ⟨ys, ry, p, hle⟩ := J1.list hq
    refine wpAny_pyIter_list p.isList ?_
    refine ⟨t1.heap.objs.size, [t1.heap.objs.size], _, _, G1, rfl, J1.kept (t' := t1.toks) fun b o e => Heap.get?_push_of_some _ e, turn_list a _, ⟨_, Heap.get?_push_size _ rfl, rfl, rfl⟩, fun b hbm => ?_, q⟩
    have e : b = t1.heap.objs.size := by simpa using hbm
    subst e
    exact J1.fpOk (Nat.le_refl _) (J1.hok.fresh (Nat.le_refl _))
  · subst e
    cases k1
    obtain ⟨ys, ry, p, hle⟩ := J1.tuple hq
    refine wpAny_pyIter_tuple (show t1.heap.IsTuple a ys.toArray from p) ?_
    refine ⟨t1.heap.objs.size, [t1.heap.objs.size], _, _, G1, rfl, J1.kept (t' := t1.toks) fun b o e => Heap.get?_push_of_some _ e, turn_tuple a _, ⟨_, Heap.get?_push_size _ rfl, rfl, rfl⟩, fun b hbm => ?_, q⟩
    have e : b = t1.heap.objs.size := by simpa using hbm
    subst e
    exact J1.fpOk (Nat.le_refl _) (J1.hok.fresh (Nat.le_refl _))
  · subst ex
    obtain ⟨t, rfl⟩ := k1
    cases ha : z.cps.all (· < 128)
    · exact wpAny_pyIter_wide ha (pi_one (tk := t1.toks) J1 _ (turn_str _ z t "str_iterator" (.inr rfl)) ⟨_, Heap.get?_push_size _ rfl, rfl, rfl⟩ q)
    · exact wpAny_pyIter_ascii ha (pi_one (tk := t1.toks) J1 _ (turn_str _ z t "str_ascii_iterator" (.inl rfl)) ⟨_, Heap.get?_push_size _ rfl, rfl, rfl⟩ q)
def itemsOf : PD → R (List PD)
  | .list ds => .ok ds
  | .tuple ds => .ok ds
  | .str x => .ok (signs x)
  | _ => .bad
def iItems (g : Rho → R PD) : Rho → R (List PD) := fun ρ => (g ρ).bind itemsOf
section
variable {K : PySem.W.Frag} {W : WX} {t : TE} {g : Rho → R PD} {ta : TA} {ga : Rho → R (List PD)}
theorem di_seq (h : TDe K W t g) : TDi K W (iSeq K t) (iItems g) := fun F0 H0 F H σ ρ Q S q =>
  h F0 H0 F H σ ρ _ S (q.then fun a F1 H1 e1 k1 v rv => by
    cases rv with
    | lst s r => exact .inl ⟨_, rfl, ⟨_, .inl (rdM e1.g s)⟩, Fin.okk (x := _) K W σ e1.g k1 _ (itr_list (.inl s) r)⟩
    | tup s r => exact .inr (.inl ⟨_, rfl, ⟨_, SqT.of (e1.g _ _ s)⟩, Fin.okk (x := _) K W σ e1.g k1 _ (itr_tup (SqT.of s) r)⟩)
    | str x => exact .inr (.inr ⟨_, rfl, Fin.okk (x := _) K W σ e1.g k1 _ itr_str⟩)
    | _ => exact k1.elim)
def small62 (i : Int) : Bool := decide (-(2 ^ 62) ≤ i) && decide (i < 2 ^ 62)
theorem small62_ok {i : Int} (h : small62 i = true) : -(2 ^ 62) ≤ i ∧ i < 2 ^ 62 := by
  unfold small62 at h
  rw [Bool.and_eq_true] at h
  exact ⟨of_decide_eq_true h.1, of_decide_eq_true h.2⟩
def rng1 : List PD → R (List PD)
  | [.int j] => if small62 j = true then .ok (rngD 0 j.toNat) else .bad
  | _ => .bad
def rng2 : List PD → R (List PD)
  | [.int i, .int j] => if small62 i = true ∧ small62 j = true then .ok (rngD i (j - i).toNat) else .bad
  | _ => .bad
def iRng1D (ga : Rho → R (List PD)) : Rho → R (List PD) := fun ρ => (ga ρ).bind rng1
def iRng2D (ga : Rho → R (List PD)) : Rho → R (List PD) := fun ρ => (ga ρ).bind rng2
theorem di_rng1 (h : TDq K W ta ga) : TDi K W (iRng1 ta) (iRng1D ga) := fun F0 H0 F H σ ρ Q S q =>
  h F0 H0 F H σ ρ _ S (q.then fun l F1 H1 e1 k1 vs rs => by
    unfold rng1 at k1
    split at k1
    · split at k1
      · rename_i hs
        obtain ⟨h1, h2⟩ := small62_ok hs
        cases rs with
        | cons r1 r2 =>
          cases r2
          exact ⟨_, by rw [r1.int], h1, h2, Fin.okk (x := _) K W σ e1.g k1 _ itr_rng⟩
      · exact k1.elim
    · exact k1.elim)
def enumO : List PD → R (List PD)
  | [.list ds] => .ok (enumD ds)
  | _ => .bad
def iEnumD (ga : Rho → R (List PD)) : Rho → R (List PD) := fun ρ => (ga ρ).bind enumO
theorem di_enum (h : TDa K W ta ga) : TDi K W (iEnum K ta) (iEnumD ga) := fun F0 H0 F H σ ρ Q S q =>
  h F0 H0 F H σ ρ _ S (q.then fun l F1 H1 e1 k1 vs rs => by
    unfold enumO at k1
    split at k1
    · cases rs with
      | cons r1 r2 =>
        cases r2
        cases r1 with
        | lst s r => exact ⟨_, _, rfl, .inl (rdM e1.g s), Fin.okk (x := _) K W σ e1.g k1 _ (itr_enum (.inl s) r)⟩
    · exact k1.elim)
def zipO : List PD → R (List PD)
  | [.list ds, .list es] => .ok (zipD ds es)
  | _ => .bad
def iZipD (ga : Rho → R (List PD)) : Rho → R (List PD) := fun ρ => (ga ρ).bind zipO
def revO : List PD → R (List PD)
  | [.list ds] => .ok ds.reverse
  | _ => .bad
def iRevD (ga : Rho → R (List PD)) : Rho → R (List PD) := fun ρ => (ga ρ).bind revO
end
def forD (a : Rho → PD → R Rho) (body : Rho → SR) : List PD → Rho → SR
  | [], ρ => .nx ρ
  | x :: xs, ρ => match a ρ x with
    | .ok ρ1 => (match body ρ1 with
      | .nx ρ2 => forD a body xs ρ2
      | .ct ρ2 => forD a body xs ρ2
      | .bk ρ2 => .nx ρ2
      | .rt s => .rt s
      | .exc c => .exc c
      | .bad => .bad)
    | _ => .bad
def sFor (gi : Rho → R (List PD)) (a : Rho → PD → R Rho) (body : Rho → SR) : Rho → SR := fun ρ => SR.of (gi ρ) fun ds => forD a body ds ρ
def whileD (c : Rho → R Bool) (body : Rho → SR) : Nat → Rho → SR
  | 0, _ => .bad
  | n + 1, ρ => SR.of (c ρ) fun b => if b = true then (match body ρ with
      | .nx ρ2 => whileD c body n ρ2
      | .ct ρ2 => whileD c body n ρ2
      | .bk ρ2 => .nx ρ2
      | .rt s => .rt s
      | .exc c => .exc c
      | .bad => .bad) else .nx ρ
def sWhile (n : Nat) (c : Rho → R Bool) (body : Rho → SR) : Rho → SR := fun ρ => whileD c body n ρ
section
variable {K : PySem.W.Frag} {W : WX}
theorem ds_for {vs : List Nat} {wi : TI} {gi : Rho → R (List PD)} {gx : TG} {a : Rho → PD → R Rho} {tb : TS} {body : Rho → SR} (hi : TDi K W wi gi) (hg : TDg K vs gx a) (hb : TDS K W tb body) : TDS K W (tFor wi gx tb) (sFor gi a body) := fun F0 H0 F H σ ρ D S q => by
  refine hi F0 H0 F H σ ρ _ S (q.of S.ext fun ds F1 H1 e1 k J hJ => ?_)
  have S1 := S.go e1
  refine ⟨fun i m σ H => m = ds.length - i ∧ ∃ F ρ, StR K F0 H0 F H σ ρ ∧ Same F1 F ∧ FinS K W F0 H0 D (forD a body (ds.drop i) ρ), ⟨_, rfl, F1, ρ, S1, Same.refl F1, k⟩, ?_⟩
  rintro i m σ2 H2 ⟨rfl, F2, ρ2, S2, e2, k2⟩
  cases hd : ds[i]? with
  | none =>
    have hl := List.getElem?_eq_none_iff.mp hd
    rw [List.drop_eq_nil_of_le hl] at k2
    exact .inl ⟨(hJ i F2 H2 e2 S2.same S2.ext.h).2 hl, k2 σ2 F2 H2 S2⟩
  | some d =>
    have hl := (List.getElem?_eq_some_iff.mp hd).1
    rw [List.drop_eq_getElem_cons hl, (List.getElem?_eq_some_iff.mp hd).2] at k2
    obtain ⟨go, yl⟩ := (hJ i F2 H2 e2 S2.same S2.ext.h).1 d hd
    refine .inr ⟨go, fun σ' H' => ∃ F ρ, StR K F0 H0 F H' σ' ρ ∧ Same F1 F ∧ FinS K W F0 H0 D (forD a body (ds.drop (i + 1)) ρ), fun σ' H' ⟨F', ρ', S', e', k'⟩ => ⟨_, by omega, rfl, F', ρ', S', e', k'⟩, fun x H3 y => ?_⟩
    obtain ⟨F3, e3, r3⟩ := yl x H3 y
    refine hg F0 H0 F3 H3 σ2 ρ2 x d _ (S2.go e3) r3 ?_
    unfold forD at k2
    cases ea : a ρ2 d with
    | ok ρ3 =>
      rw [ea] at k2
      intro σ3 S3 _
      have b3 := S3.ext
      refine hb F3 H0 F3 H3 σ3 ρ3 _ S3.rebase ?_
      simp only at k2
      cases eb : body ρ3 with
      | nx ρ4 =>
        rw [eb] at k2
        exact fun σ4 F4 H4 S4 => ⟨F4, ρ4, S4.unbase b3, (e2.trans e3.f).trans S4.ext.f, k2⟩
      | ct ρ4 =>
        rw [eb] at k2
        exact fun σ4 F4 H4 S4 => ⟨F4, ρ4, S4.unbase b3, (e2.trans e3.f).trans S4.ext.f, k2⟩
      | bk ρ4 =>
        rw [eb] at k2
        exact fun σ4 F4 H4 S4 => k2 σ4 F4 H4 (S4.unbase b3)
      | rt s =>
        rw [eb] at k2
        exact FinS.rebase (D := { D with nx := _, ct := _, bk := _ }) (s := .rt s) b3 k2
      | exc c =>
        rw [eb] at k2
        exact FinS.rebase (D := D) (s := .exc c) b3 k2
      | bad => rw [eb] at k2; exact k2
    | exc c => rw [ea] at k2; exact k2.elim
    | bad => rw [ea] at k2; exact k2.elim
theorem ds_while (n : Nat) {tt : TT} {c : Rho → R Bool} {tb : TS} {body : Rho → SR} (hc : TDt K W tt c) (hb : TDS K W tb body) : TDS K W (tWhile tt tb) (sWhile n c body) := fun F0 H0 F H σ ρ D S q => by
  refine ⟨fun m σ H => ∃ F ρ, StR K F0 H0 F H σ ρ ∧ FinS K W F0 H0 D (whileD c body m ρ), ⟨n, F, ρ, S, q⟩, ?_⟩
  rintro m σ2 H2 ⟨F2, ρ2, S2, k2⟩
  cases m with
  | zero => exact k2.elim
  | succ m =>
    unfold whileD at k2
    refine hc F0 H0 F2 H2 σ2 ρ2 _ S2 (k2.of S2.ext fun b F3 H3 e3 k3 => ?_)
    cases b with
    | false => exact k3 σ2 F3 H3 (S2.go e3)
    | true =>
      refine ⟨fun σ' H' => ∃ F ρ, StR K F0 H0 F H' σ' ρ ∧ FinS K W F0 H0 D (whileD c body m ρ), fun σ' H' h => ⟨m, Nat.lt_succ_self m, h⟩, ?_⟩
      refine hb F0 H0 F3 H3 σ2 ρ2 _ (S2.go e3) ?_
      simp only [if_true] at k3
      cases eb : body ρ2 with
      | nx ρ4 => rw [eb] at k3; exact fun σ4 F4 H4 S4 => ⟨F4, ρ4, S4, k3⟩
      | ct ρ4 => rw [eb] at k3; exact fun σ4 F4 H4 S4 => ⟨F4, ρ4, S4, k3⟩
      | bk ρ4 => rw [eb] at k3; exact fun σ4 F4 H4 S4 => k3 σ4 F4 H4 S4
      | rt s => rw [eb] at k3; exact k3
      | exc c => rw [eb] at k3; exact k3
      | bad => rw [eb] at k3; exact k3
end
def wipeD (ρ : Rho) : List Nat → Rho
  | [] => ρ
  | v :: vs => (wipeD ρ vs).set v none
theorem StR.wipe {K : PySem.W.Frag} {F0 H0 F H : Hp} {σ : L2.St} {ρ : Rho} (S : StR K F0 H0 F H σ ρ) : ∀ vs : List Nat, StR K F0 H0 F H (L2.wipe σ vs) (wipeD ρ vs)
  | [] => S
  | v :: vs => (StR.wipe S vs).setU v
theorem wipe_wipe (σ : L2.St) (vs : List Nat) : L2.wipe (L2.wipe σ vs) vs = L2.wipe σ vs := by
  have one : ∀ (v : Nat) (τ : L2.St) (us : List Nat), v ∈ us → L2.wipe (τ.set v none) us = L2.wipe τ us := fun v τ us h => wipe_set h
  have all : ∀ (us : List Nat), (∀ u ∈ us, u ∈ vs) → L2.wipe (L2.wipe σ us) vs = L2.wipe σ vs := by
    intro us
    induction us with
    | nil => intro _; rfl
    | cons u us ih =>
      intro h
      show L2.wipe ((L2.wipe σ us).set u none) vs = _
      rw [one u _ vs (h u List.mem_cons_self), ih fun x hx => h x (List.mem_cons_of_mem _ hx)]
  exact all vs fun _ h => h
def lcL {β : Type} (h : PD → R (Option β)) : List PD → R (List β)
  | [] => .ok []
  | x :: xs => (h x).bind fun o => (lcL h xs).bind fun l => .ok (o.toList ++ l)
def lcE {β : Type} (a : Rho → PD → R Rho) (gt : Rho → R Bool) (ge : Rho → R β) (ρ : Rho) : PD → R (Option β) := fun x =>
  (a ρ x).bind fun ρ1 => (gt ρ1).bind fun b => if b = true then (ge ρ1).bind fun y => .ok (some y) else .ok none
def noExc {α : Type} : R α → R α
  | .exc _ => .bad
  | r => r
def oLc (gi : Rho → R (List PD)) (a : Rho → PD → R Rho) (gt : Rho → R Bool) (ge : Rho → R PD) (vs : List Nat) : Rho → R PD := fun ρ =>
  (gi ρ).bind fun ds => (noExc (lcL (lcE a gt ge (wipeD ρ vs)) ds)).bind fun l => if l.length ≤ sizeLine then .ok (.list l) else .bad
def W0 : WX := fun _ _ _ _ => False
theorem lcL_cons {β : Type} {h : PD → R (Option β)} {x : PD} {xs : List PD} {l : List β} (e : lcL h (x :: xs) = .ok l) : ∃ o l', h x = .ok o ∧ lcL h xs = .ok l' ∧ l = o.toList ++ l' := by
  unfold lcL at e
  cases eh : h x with
  | ok o =>
    rw [eh] at e
    have e : (lcL h xs).bind (fun l => R.ok (o.toList ++ l)) = .ok l := e
    cases el : lcL h xs with
    | ok l' =>
      rw [el] at e
      have e : R.ok (o.toList ++ l') = R.ok l := e
      cases e
      exact ⟨o, l', rfl, rfl, rfl⟩
    | exc c => rw [el] at e; cases e
    | bad => rw [el] at e; cases e
  | exc c => rw [eh] at e; cases e
  | bad => rw [eh] at e; cases e
section
variable {K : PySem.W.Frag} {W : WX}
theorem to_lc {vs : List Nat} {wi : TI} {gi : Rho → R (List PD)} {gx : TG} {a : Rho → PD → R Rho} {tt : TT} {gt : Rho → R Bool} {te : TE} {ge : Rho → R PD}
    (hi : TDi K W wi gi) (hg : TDg K vs gx a) (ht : TDt K W0 tt gt) (he : TDe K W0 te ge) : TDo K W (tLc wi gx tt te vs) (oLc gi a gt ge vs) := fun F0 H0 F H σ ρ Q S q => by
  refine hi F0 H0 F H σ ρ _ S ?_
  unfold oLc at q
  cases egi : gi ρ with
  | exc c => rw [egi] at q; exact q
  | bad => rw [egi] at q; exact q
  | ok ds =>
    rw [egi] at q
    have q : Fin K W σ F H ((noExc (lcL (lcE a gt ge (wipeD ρ vs)) ds)).bind fun l => if l.length ≤ sizeLine then R.ok (PyData.list l) else R.bad) (OwQ K H Q) := q
    cases el : lcL (lcE a gt ge (wipeD ρ vs)) ds with
    | exc c => rw [el] at q; exact q.elim
    | bad => rw [el] at q; exact q.elim
    | ok l =>
      rw [el] at q
      have q : Fin K W σ F H (if l.length ≤ sizeLine then R.ok (PyData.list l) else R.bad) (OwQ K H Q) := q
      by_cases hsz : l.length ≤ sizeLine
      · rw [if_pos hsz] at q
        intro F1 H1 e1 J hJ D hD
        have S1 := S.go e1
        refine ⟨fun i m H => m = ds.length - i ∧ ∃ F acc accv rest, Ext F1 H1 F H ∧ F D = none ∧ H D = some (.lst accv) ∧ DpAll K F accv acc ∧ lcL (lcE a gt ge (wipeD ρ vs)) (ds.drop i) = .ok rest ∧ l = acc ++ rest,
          ⟨_, rfl, F1, [], [], l, Ext.own e1.g hD, e1.g.free hD, upd_same, .nil, el, rfl⟩, ?_⟩
        rintro i m H2 ⟨rfl, F2, acc, accv, rest, e2, hFD, hHD, racc, erest, hl⟩
        have S2 : StR K F0 H0 F2 H2 σ ρ := S1.go e2
        cases hd : ds[i]? with
        | none =>
          have hle := List.getElem?_eq_none_iff.mp hd
          rw [List.drop_eq_nil_of_le hle] at erest
          have hr : rest = [] := by unfold lcL at erest; cases erest; rfl
          subst hr
          rw [List.append_nil] at hl
          subst hl
          exact .inl ⟨(hJ i F2 H2 e2.f e2.g (S1.go e2).ext.h).2 hle, q F2 H2 (e1.trans e2) D (e1.h.free hD) hFD ⟨accv, hHD, racc⟩⟩
        | some d =>
          have hlt := (List.getElem?_eq_some_iff.mp hd).1
          rw [List.drop_eq_getElem_cons hlt, (List.getElem?_eq_some_iff.mp hd).2] at erest
          obtain ⟨o, l', eo, el', er⟩ := lcL_cons erest
          obtain ⟨go, yl⟩ := (hJ i F2 H2 e2.f e2.g (S1.go e2).ext.h).1 d hd
          refine .inr ⟨go, fun H' => ∃ F acc accv rest, Ext F1 H1 F H' ∧ F D = none ∧ H' D = some (.lst accv) ∧ DpAll K F accv acc ∧ lcL (lcE a gt ge (wipeD ρ vs)) (ds.drop (i + 1)) = .ok rest ∧ l = acc ++ rest,
            fun H' ⟨F', acc', accv', rest', z⟩ => ⟨_, by omega, rfl, F', acc', accv', rest', z⟩, fun x H3 y => ?_⟩
          obtain ⟨F3, e3, r3⟩ := yl x H3 y
          have dne : ∀ {Fa Ha Fb Hb : Hp}, Ext Fa Ha Fb Hb → Fa D = none → Ha D = some (.lst accv) → Fb D = none ∧ Hb D = some (.lst accv) := fun {Fa Ha Fb Hb} e h1 h2 => ⟨e.keep h1 h2 nt_lst, e.h D _ h2⟩
          obtain ⟨hFD3, hHD3⟩ := dne e3 hFD hHD
          have S3 : StR K F0 H0 F3 H3 (L2.wipe σ vs) (wipeD ρ vs) := (S2.go e3).wipe vs
          refine hg F0 H0 F3 H3 _ _ x d _ S3 r3 ?_
          unfold lcE at eo
          cases ea : a (wipeD ρ vs) d with
          | exc c => rw [ea] at eo; cases eo
          | bad => rw [ea] at eo; cases eo
          | ok ρ4 =>
            rw [ea] at eo
            have eo : ((gt ρ4).bind fun b => if b = true then (ge ρ4).bind fun y => R.ok (some y) else R.ok none) = R.ok o := eo
            intro σ4 S4 hw
            refine ⟨by rw [hw, wipe_wipe], ?_⟩
            refine ht F0 H0 F3 H3 σ4 ρ4 _ S4 ?_
            cases et : gt ρ4 with
            | exc c => rw [et] at eo; cases eo
            | bad => rw [et] at eo; cases eo
            | ok b =>
              rw [et] at eo
              intro F5 H5 e5
              obtain ⟨hFD5, hHD5⟩ := dne e5 hFD3 hHD3
              have e15 : Ext F1 H1 F5 H5 := (e2.trans e3).trans e5
              cases b with
              | false =>
                have eo : R.ok none = R.ok o := eo
                cases eo
                show (∃ F acc accv rest, _)
                exact ⟨F5, acc, accv, l', e15, hFD5, hHD5, racc.mono (e3.f.trans e5.f), el', by rw [hl, er]; rfl⟩
              | true =>
                have eo : ((ge ρ4).bind fun y => R.ok (some y)) = R.ok o := eo
                show te σ4 H5 _
                refine he F0 H0 F5 H5 σ4 ρ4 _ (S4.go e5) ?_
                cases ey : ge ρ4 with
                | exc c => rw [ey] at eo; cases eo
                | bad => rw [ey] at eo; cases eo
                | ok yv =>
                  rw [ey] at eo
                  have eo : R.ok (some yv) = R.ok o := eo
                  cases eo
                  intro F6 H6 e6 v6 r6
                  obtain ⟨hFD6, hHD6⟩ := dne e6 hFD5 hHD5
                  have e16 : Ext F1 H1 F6 H6 := e15.trans e6
                  have hlen : l.length = acc.length + (1 + l'.length) := by rw [hl, er]; simp; omega
                  refine ⟨accv, hHD6, by rw [racc.length]; omega, F6, acc ++ [yv], accv ++ [v6], l', ⟨e16.f, fun b u z => ?_, fun b u z => ?_, e16.n⟩, hFD6, upd_same,
                    (racc.mono ((e3.f.trans e5.f).trans e6.f)).append (.cons r6 .nil), el', by rw [hl, er]; simp⟩
                  · rw [upd_ne (ne_of_none z hFD6)]; exact e16.g b u z
                  · rw [upd_ne (ne_of_none z hD)]; exact e16.h b u z
      · rw [if_neg hsz] at q
        exact q.elim
def gYes : Rho → R Bool := fun _ => .ok true
theorem tt_yes : TDt K W tYes gYes := fun F0 H0 F H σ ρ Q S q => q.ok S.same
end
inductive FR where
  | rt (s : Sl)
  | exc (c : Ec)
  | bad
def SR.fr : SR → FR
  | .nx _ => .rt (.d .none)
  | .rt s => .rt s
  | .exc c => .exc c
  | _ => .bad
def FRQ (K : PySem.W.Frag) (F H : Hp) (Q : VK) (E : XK) : FR → Prop
  | .rt s => RetQ K F H Q s
  | .exc c => ∀ cls d F' H', Ext F H F' H' → ExR K c cls d H' → E cls d H'
  | .bad => False
def spD (K : PySem.W.Frag) (n : Nat) (f : List PD → FR) : Sp := fun vs H Q E => vs.length = n ∧ ∃ F ds, Same F H ∧ DpAll K F vs ds ∧ FRQ K F H Q E (f ds)
def startD (n : Nat) (ds : List PD) : Rho := ds.map (fun d => some (.d d)) ++ List.replicate (n - ds.length) none
def runD (n : Nat) (s : Rho → SR) (ds : List PD) : FR := (s (startD n ds)).fr
theorem start_ok {K : PySem.W.Frag} {F H : Hp} {N : List Str} {vs : List V} {ds : List PD} (s : Same F H) (r : DpAll K F vs ds) : StR K F H F H (start N vs) (startD N.length ds) := by
  have hl := r.length
  have gd : ∀ (j : Nat) (y : Sl), (startD N.length ds)[j]? = some (some y) → ∃ d, y = .d d ∧ ds[j]? = some d := fun j y e => by
    unfold startD at e
    by_cases hj : j < ds.length
    · rw [List.getElem?_append_left (by simpa using hj), List.getElem?_map] at e
      cases z : ds[j]? with
      | none => rw [z] at e; cases e
      | some d => rw [z] at e; cases e; exact ⟨d, rfl, rfl⟩
    · rw [List.getElem?_append_right (by simpa using hj), List.getElem?_replicate] at e
      split at e
      · cases e
      · cases e
  refine ⟨fun _ => [], Ext.refl s, ?_, fun i x e => ?_, fun i x e => ?_, fun i p h => by (cases h), fun i => List.nodup_nil, fun i j p h => by (cases h), fun i x e => ?_, fun i x e => ?_⟩
  · unfold L2.start startD; simp [hl]
  · obtain ⟨d, e1, e2⟩ := gd i _ e
    cases e1
    obtain ⟨v, a, b⟩ := r.get' e2
    refine ⟨v, ?_, b⟩
    unfold L2.start
    rw [List.getElem?_append_left (by simpa using (List.getElem?_eq_some_iff.mp a).1), List.getElem?_map, a]
    rfl
  · obtain ⟨d, e1, e2⟩ := gd i _ e
    cases e1
  · obtain ⟨d, e1, e2⟩ := gd i _ e
    cases e1
  · obtain ⟨d, e1, e2⟩ := gd i _ e
    cases e1
theorem fnD {P : Program} {w : World} {K : PySem.W.Frag} {mg : Str → Option Value} {base : Heap} {x qual : Str} {params : Arguments} {body : List Stmt} {scope : Scope} {f : Addr} {fd : FuncData} {N ps : List Str} {k : Nat} {s : Rho → SR}
    (F : FunD K x qual params body scope [] [] f fd) (S : FnScope N ps scope)
    (hb : ∀ (cdv : Value) (A : Around) (outer : List Env) (sh : Shared) (H : Hp) (E : XK), Room k (A.deeper (envOfC qual scope sh.heap.objs.size f cdv)) →
      Takes (cxOf (L2.CX P w) P w K mg base N qual scope f cdv A outer sh H E) (fun cls d _ H => E cls d H) →
      ∃ t, PSs (cxOf (L2.CX P w) P w K mg base N qual scope f cdv A outer sh H E) body t ∧ TDS K (fun cls d _ H => E cls d H) t s) : FnOk P w K mg base (L2.CX P w) (k + 1) f fd ps (spD K ps.length (runD N.length s)) := by
  refine F.ok S (fun vs H Q E h => h.1) (fun cdv A outer sh H vs Q E hr h => ?_)
  obtain ⟨hl, F0, ds, hs, hd, hq⟩ := h
  obtain ⟨t, h1, h2⟩ := hb cdv A outer sh H E hr (takes_of rfl rfl rfl (E₁ := _) rfl)
  refine ⟨t, h1, h2 F0 H F0 H _ _ _ (start_ok hs hd) ?_⟩
  unfold runD at hq
  cases e : s (startD N.length ds) with
  | nx ρ => rw [e] at hq; exact fun σ F1 H1 S1 => hq .non F1 H1 S1.ext .non
  | bk ρ => rw [e] at hq; exact hq.elim
  | ct ρ => rw [e] at hq; exact hq.elim
  | rt s => rw [e] at hq; exact hq
  | exc c => rw [e] at hq; exact fun cls d σ F1 H1 ex r => hq cls d F1 H1 ex r
  | bad => rw [e] at hq; exact hq.elim
def FR.toE : FR → R PD
  | .rt (.d x) => .ok x
  | .rt (.t x) => x.toD
  | .exc c => .exc c
  | _ => .bad
def FR.toO : FR → R PD
  | .rt (.t (.own x)) => .ok x
  | .exc c => .exc c
  | _ => .bad
def scalD : PD → Bool
  | .none => true
  | .bool _ => true
  | .int _ => true
  | .str _ => true
  | _ => false
def FR.toS : FR → R PD
  | .rt (.d x) => if scalD x = true then .ok x else .bad
  | .exc c => .exc c
  | _ => .bad
def isDict : PD → Bool
  | .dict _ => true
  | _ => false
theorem ext_frz {F H F' H' : Hp} {fp : List Addr} (ex : Ext F H F' H') (hp : ∀ p ∈ fp, H p = none ∧ F' p = none) : Ext F H (frzF F' H' fp) H' := by
  refine ⟨ex.f.trans (frz_f ex.g), frz_g ex.g, ex.h, fun p h => ?_⟩
  rcases frz_n h with q | q | ⟨o, q, t⟩
  · exact ex.n p q
  · exact .inr (.inl (hp p q).1)
  · cases e : H p with
    | none => exact .inr (.inl rfl)
    | some u =>
      have := ex.h p u e
      rw [q] at this
      cases this
      exact .inr (.inr ⟨_, rfl, t⟩)
theorem own_frz {K : PySem.W.Frag} {F H F' H' : Hp} {fp : List Addr} {v : V} {t : Tv} {d : PD} (ex : Ext F H F' H') (tv : TvAt K F' H' fp v t) (hp : ∀ p ∈ fp, H p = none ∧ F' p = none) (e : t.toD = .ok d) : ∃ F'', Ext F H F'' H' ∧ Dp K F'' v d :=
  ⟨_, ext_frz ex hp, tv.frz ex.g e⟩
theorem toD_x : ∀ (t : Tv) (c : Ec), t.toD ≠ .exc c := by
  have both : ∀ n : Nat, (∀ (t : Tv) (c : Ec), sizeOf t < n → t.toD ≠ .exc c) ∧ ∀ (ts : List Tv) (c : Ec), sizeOf ts < n → Tv.toDs ts ≠ .exc c := by
    intro n
    induction n with
    | zero => exact ⟨fun _ _ h => absurd h (Nat.not_lt_zero _), fun _ _ h => absurd h (Nat.not_lt_zero _)⟩
    | succ n ih =>
      refine ⟨fun t c h => ?_, fun ts c h => ?_⟩
      · cases t with
        | fr d => unfold Tv.toD; exact fun z => by cases z
        | own x =>
          cases x <;> (unfold Tv.toD; exact fun z => by cases z)
        | dT k => unfold Tv.toD; exact fun z => by cases z
        | obj c ns ts => unfold Tv.toD; exact fun z => by cases z
        | dct ks ts => unfold Tv.toD; exact fun z => by cases z
        | any => unfold Tv.toD; exact fun z => by cases z
        | lst ts =>
          unfold Tv.toD
          cases e : Tv.toDs ts with
          | ok l => exact fun z => by cases z
          | bad => exact fun z => by cases z
          | exc c' => exact absurd e (ih.2 ts c' (by simp at h; omega))
        | tup ts =>
          unfold Tv.toD
          cases e : Tv.toDs ts with
          | ok l => exact fun z => by cases z
          | bad => exact fun z => by cases z
          | exc c' => exact absurd e (ih.2 ts c' (by simp at h; omega))
      · cases ts with
        | nil => unfold Tv.toDs; exact fun z => by cases z
        | cons t ts =>
          unfold Tv.toDs
          cases e : t.toD with
          | bad => exact fun z => by cases z
          | exc c' => exact absurd e (ih.1 t c' (by simp at h; omega))
          | ok d =>
            show (Tv.toDs ts).bind _ ≠ _
            cases e2 : Tv.toDs ts with
            | ok l => exact fun z => by cases z
            | bad => exact fun z => by cases z
            | exc c' => exact absurd e2 (ih.2 ts c' (by simp at h; omega))
  exact fun t c => (both (sizeOf t + 1)).1 t c (Nat.lt_succ_self _)
section
variable {K : PySem.W.Frag} {W : WX} {ta : TA} {ga : Rho → R (List PD)} {n : Nat} {f : List PD → FR}
def eCall (n : Nat) (f : List PD → FR) (ga : Rho → R (List PD)) : Rho → R PD := fun ρ => (ga ρ).bind fun ds => if ds.length = n then (f ds).toE else .bad
def oCall (n : Nat) (f : List PD → FR) (ga : Rho → R (List PD)) : Rho → R PD := fun ρ => (ga ρ).bind fun ds => if ds.length = n then (f ds).toO else .bad
def eCallR (n : Nat) (f : List PD → FR) (ga : Rho → R (List PD)) : Rho → R PD := fun ρ => (ga ρ).bind fun ds => if ds.length = n ∧ ds.all (fun d => !isDict d) = true then (f ds).toS else .bad
theorem td_call (h : TDa K W ta ga) : TDe K W (tCallS (spD K n f) (WE W) ta) (eCall n f ga) := fun F0 H0 F H σ ρ Q S q =>
  h F0 H0 F H σ ρ _ S (q.then fun ds F1 H1 e1 k1 vs rs => by
    by_cases hn : ds.length = n
    · rw [if_pos hn] at k1
      refine ⟨by rw [rs.length]; exact hn, F1, ds, e1.g, rs, ?_⟩
      cases e : f ds with
      | rt s =>
        rw [e] at k1
        cases s with
        | d x => exact fun v F' H' ex r => k1 F' H' ex v r
        | t x =>
          intro v fp F' H' ex tv nd hp
          have k1 : Fin K W σ F1 H1 x.toD (DpQ K Q) := k1
          cases e2 : x.toD with
          | ok d =>
            rw [e2] at k1
            obtain ⟨F'', ex2, r⟩ := own_frz ex tv hp e2
            exact k1 F'' H' ex2 _ r
          | exc c => exact absurd e2 (toD_x x c)
          | bad => rw [e2] at k1; exact k1.elim
        | l x => exact k1.elim
        | b x => exact k1.elim
      | exc c => rw [e] at k1; exact fun cls d F' H' ex r => k1 cls d F' H' ex r
      | bad => rw [e] at k1; exact k1.elim
    · rw [if_neg hn] at k1
      exact k1.elim)
theorem RpAll.dp {F H : Hp} (s : Same F H) : ∀ {vs : List V} {ds : List PD}, RpAll K F H vs ds → ds.all (fun d => !isDict d) = true → DpAll K H vs ds
  | _, _, .nil, _ => .nil
  | _, _, .cons r t, h => by
    rw [List.all_cons, Bool.and_eq_true] at h
    exact .cons (r.dp s fun kvs e => by rw [e] at h; cases h.1) (RpAll.dp s t h.2)
def eCall0 (f : List PD → FR) : Rho → R PD := fun _ => noExc (f []).toE
def oCall0 (f : List PD → FR) : Rho → R PD := fun _ => noExc (f []).toO
end
end DL
namespace DL
open PySem PySem.Spec PyProof.Rows L2
section
variable {K : PySem.W.Frag} {W : WX} {σ : L2.St} {F H : Hp} {Q : VK}
theorem new_lst {vs : List V} {ds : List PD} {p : Addr} (s : Same F H) (r : DpAll K F vs ds) (k : Fin K W σ F H (.ok (PyData.list ds)) (DpQ K Q)) (hp : H p = none) : Q (.ref p) (upd H p (.lst vs)) := by
  have e := Ext.new (o := .lst vs) s hp
  exact k _ _ e _ (.lst (.inl upd_same) (r.mono e.f))
theorem new_tup {vs : List V} {ds : List PD} {p : Addr} (s : Same F H) (r : DpAll K F vs ds) (k : Fin K W σ F H (.ok (PyData.tuple ds)) (DpQ K Q)) (hp : H p = none) : Q (.ref p) (upd H p (.tup vs)) := by
  have e := Ext.new (o := .tup vs) s hp
  exact k _ _ e _ (.tup upd_same (r.mono e.f))
theorem own_lst {vs : List V} {ds : List PD} {p : Addr} (s : Same F H) (r : DpAll K F vs ds) (k : Fin K W σ F H (.ok (PyData.list ds)) (OwQ K H Q)) (hp : H p = none) : Q (.ref p) (upd H p (.lst vs)) := by
  have e := Ext.own (o := .lst vs) s hp
  exact k _ _ e p hp (s.free hp) ⟨vs, upd_same, r⟩
end
def rCatR : R2 := fun x y H Q => ∃ l b xs zs, x = .ref l ∧ y = .ref b ∧ Rd H l (.lst xs) ∧ Rd H b (.lst zs) ∧ xs.length + zs.length ≤ sizeLine ∧ ∀ p, H p = none → Q (.ref p) (upd H p (.lst (xs ++ zs)))
theorem op_catR {X : Cx} : OpR X (binaryOp .Add) rCatR := by
  intro pn s σ H x y v u Q J rx ry h
  obtain ⟨l, b, xs, zs, rfl, rfl, hH, hB, hle, q⟩ := h
  cases rx
  cases ry
  obtain ⟨z, vs1, n, r, e⟩ := hH.ok J.hok
  obtain ⟨z2, vs2, n2, r2, e2⟩ := hB.ok J.hok
  have hl := r.length
  have hl2 := r2.length
  refine PySem.P.add_list e e2 ?_ (by rw [List.size_toArray, List.size_toArray]; omega)
  have ea : vs1.toArray ++ vs2.toArray = (vs1 ++ vs2).toArray := by simp
  rw [ea]
  exact ⟨.ref _, _, J.lnew (t' := s.toks) (r.append r2) (by rw [List.length_append]; omega), rfl, q _ J.fresh⟩
def rAdd2 (K : PySem.W.Frag) : R2 := fun x y H Q => rI0 (fun i j => .int (i + j)) x y H Q ∨ (∃ i j, x = .str i ∧ y = .str j ∧ i.length + j.length ≤ sizeLine ∧ Q (.str (i ++ j)) H) ∨ rCatR x y H Q ∨ rCatA K x y H Q
theorem op_add2 {X : Cx} : OpR X (binaryOp .Add) (rAdd2 X.K) := op_add.or (op_add_str.or (op_catR.or op_catA))
def addD : PD → PD → R PD
  | .int i, .int j => .ok (.int (i + j))
  | .str x, .str y => if x.length + y.length ≤ sizeLine then .ok (.str (x ++ y)) else .bad
  | .list xs, .list ys => if xs.length + ys.length ≤ sizeLine then .ok (.list (xs ++ ys)) else .bad
  | .tuple xs, .tuple ys => if xs.length + ys.length ≤ sizeLine then .ok (.tuple (xs ++ ys)) else .bad
  | _, _ => .bad
section
variable {K : PySem.W.Frag}
theorem rd_add : RD K (rAdd2 K) addD := fun W σ F H x y a b Q s ra rb q => by
  unfold addD at q
  split at q
  · exact .inl ⟨_, _, ra.int, rb.int, q.ok s _ (.int _)⟩
  · split at q
    · rename_i h
      exact .inr (.inl ⟨_, _, ra.str, rb.str, h, q.ok s _ (.str _)⟩)
    · exact q.elim
  · split at q
    · rename_i h
      obtain ⟨a, vs, rfl, s1, r1⟩ := ra.list s
      obtain ⟨b, us, rfl, s2, r2⟩ := rb.list s
      exact .inr (.inr (.inl ⟨_, _, _, _, rfl, rfl, s1, s2, by rw [r1.length, r2.length]; exact h, fun p hp => new_lst s (r1.append r2) q hp⟩))
    · exact q.elim
  · split at q
    · rename_i h
      obtain ⟨a, vs, rfl, s1, r1⟩ := ra.tuple s
      obtain ⟨b, us, rfl, s2, r2⟩ := rb.tuple s
      refine .inr (.inr (.inr ⟨_, _, _, _, rfl, rfl, s1, s2, by rw [r1.length, r2.length]; exact h, fun e => ?_, fun _ e => ?_, fun _ _ p hp => new_tup s (r1.append r2) q hp⟩))
      · subst e
        cases r1
        rename_i xs ys h
        cases ra with
        | inl ra =>
          cases rb with
          | inl rb => exact q.ok s _ rb
          | inr rb => obtain ⟨p, e, z⟩ := rb; exact z.elim
        | inr ra => obtain ⟨p, e, z⟩ := ra; exact z.elim
      · subst e
        cases r2
        rw [List.append_nil] at q
        cases ra with
        | inl ra => exact q.ok s _ ra
        | inr ra => obtain ⟨p, e, z⟩ := ra; exact z.elim
    · exact q.elim
  · exact q.elim
def addL : PD → PD → R PD
  | .list xs, .list ys => if xs.length + ys.length ≤ sizeLine then .ok (.list (xs ++ ys)) else .bad
  | _, _ => .bad
def iiD (C : Int → Int → Bool) (g : Int → Int → Int) : PD → PD → R PD
  | .int i, .int j => if C i j = true then .ok (.int (g i j)) else .bad
  | _, _ => .bad
theorem rd_I {C : Int → Int → Prop} {B : Int → Int → Bool} {g : Int → Int → Int} (h : ∀ i j, B i j = true → C i j) : RD K (rI C fun i j => .int (g i j)) (iiD B g) := fun W σ F H x y a b Q s ra rb q => by
  unfold iiD at q
  split at q
  · split at q
    · rename_i hb
      exact ⟨_, _, ra.int, rb.int, h _ _ hb, q.ok s _ (.int _)⟩
    · exact q.elim
  · exact q.elim
def subD : PD → PD → R PD
  | .int i, .int j => .ok (.int (i - j))
  | _, _ => .bad
theorem rd_sub : RD K (rI0 fun i j => .int (i - j)) subD := fun W σ F H x y a b Q s ra rb q => by
  unfold subD at q
  split at q
  · exact ⟨_, _, ra.int, rb.int, q.ok s _ (.int _)⟩
  · exact q.elim
def modB (_ j : Int) : Bool := decide (j ≠ 0)
abbrev modD : PD → PD → R PD := iiD modB fun i j => i.fmod j
theorem rd_mod : RD K (rI (fun _ j => j ≠ 0) fun i j => .int (i.fmod j)) modD := rd_I fun i j h => of_decide_eq_true h
def divB (_ j : Int) : Bool := decide (j ≠ 0) && decide (j.natAbs < 1073741824)
abbrev divD : PD → PD → R PD := iiD divB fun i j => i.fdiv j
theorem rd_div : RD K (rI CDivN fun i j => .int (i.fdiv j)) divD := rd_I fun i j h => by
  unfold divB at h
  rw [Bool.and_eq_true] at h
  exact ⟨of_decide_eq_true h.1, of_decide_eq_true h.2⟩
def mulB (i j : Int) : Bool := (decide (-(2 ^ 64) < i) && decide (i < 2 ^ 64)) || (decide (-(2 ^ 64) < j) && decide (j < 2 ^ 64))
theorem mulB_ok {i j : Int} (h : mulB i j = true) : CMul i j := by
  unfold mulB at h
  simp only [Bool.or_eq_true, Bool.and_eq_true, decide_eq_true_eq] at h
  exact h
def mulS (x : Str) (n : Int) : Str := if n < 1 then Str.empty else ⟨(List.replicate n.toNat x.cps).foldl (· ++ ·) #[]⟩
theorem fold_app : ∀ (l : List (Array Nat)) (a : Array Nat), (l.foldl (· ++ ·) a).size = a.size + (l.map (·.size)).sum
  | [], a => by simp
  | x :: l, a => by rw [List.foldl_cons, fold_app l]; simp; omega
theorem mulS_len (x : Str) (n : Int) : (mulS x n).length = x.length * n.toNat := by
  unfold mulS
  split
  · rename_i h
    have e : n.toNat = 0 := by omega
    rw [e]; rfl
  · show ((List.replicate n.toNat x.cps).foldl (· ++ ·) #[]).size = _
    rw [fold_app]
    simp [Str.length, Nat.mul_comm]
theorem tooLong_le {n : Nat} (h : n ≤ sizeLine) : Builtin.Str.tooLong n = false := by
  unfold Builtin.Str.tooLong
  exact decide_eq_false (by omega)
def rMulS : R2 := fun x y H Q => ∃ z k, x = .str z ∧ y = .int k ∧ -(2 ^ 62) ≤ k ∧ k < 2 ^ 62 ∧ z.length * k.toNat ≤ sizeLine ∧ Q (.str (mulS z k)) H
theorem op_mulS {X : Cx} : OpR X (binaryOp .Mult) rMulS := by
  intro pins s σ H x y v u Q I rx ry h
  obtain ⟨z, k, rfl, rfl, h1, h2, hz, q⟩ := h
  obtain ⟨t, rfl⟩ := rx
  obtain ⟨t', rfl⟩ := ry
  have hs := sizeLine_eq
  refine PySem.P.mul_str (by rw [decide_eq_false (show ¬ k < -(2 ^ 63 : Int) by omega), decide_eq_false (show ¬ k ≥ 2 ^ 63 by omega)]; rfl) (fun hn ho => ?_) (fun _ _ => tooLong_le hz) ?_
  · have hk : k.toNat = k := Int.toNat_of_nonneg (by omega)
    have h3 : ((z.length * k.toNat : Nat) : Int) ≤ 16777216 := by rw [hs] at hz; exact Int.ofNat_le.mpr hz
    intro hgt
    have h4 : (2 ^ 63 - 1 : Int) / k * k ≤ 2 ^ 63 - 1 := Int.ediv_mul_le _ (by omega)
    have h5 : (2 ^ 63 - 1 : Int) < ((2 ^ 63 - 1 : Int) / k + 1) * k := Int.lt_ediv_add_one_mul_self _ (by omega)
    have h6 : ((2 ^ 63 - 1 : Int) / k + 1) * k ≤ (z.length : Int) * k := Int.mul_le_mul_of_nonneg_right (by omega) (by omega)
    have h7 : (z.length : Int) * k = ((z.length * k.toNat : Nat) : Int) := by rw [Int.natCast_mul, hk]
    omega
  · by_cases c1 : k < 1
    · rw [if_pos c1]
      refine ⟨by decide, .str _, H, I.tok _, ⟨_, rfl⟩, ?_⟩
      unfold mulS at q
      rw [if_pos c1] at q
      exact q
    · rw [if_neg c1]
      have hl := mulS_len z k
      unfold mulS at q hl
      rw [if_neg c1] at q hl
      by_cases c2 : (k == 1 || z.length == 0) = true
      · rw [if_pos c2]
        refine ⟨.str z, H, I, ⟨t, rfl⟩, ?_⟩
        rw [Bool.or_eq_true] at c2
        have e : (⟨(List.replicate k.toNat z.cps).foldl (· ++ ·) #[]⟩ : Str) = z := by
          rcases c2 with c2 | c2
          · have : k = 1 := by simpa using c2
            subst this
            simp [List.replicate]
          · have c2 : z.cps.size = 0 := by simpa [Str.length] using c2
            have e0 : z.cps = #[] := Array.eq_empty_of_size_eq_zero c2
            have : ∀ n : Nat, (List.replicate n (#[] : Array Nat)).foldl (· ++ ·) #[] = #[] := by
              intro n
              induction n with
              | zero => rfl
              | succ n ih => rw [List.replicate_succ, List.foldl_cons]; simpa using ih
            rw [e0, this]
            cases z
            simp only at e0
            rw [e0]
        rw [e] at q
        exact q
      · rw [if_neg c2]
        refine ⟨?_, .str _, H, I.tok _, ⟨_, rfl⟩, q⟩
        rw [hl]
        exact hz
def rMul2 : R2 := fun x y H Q => rI CMul (fun i j => .int (i * j)) x y H Q ∨ rMulS x y H Q
theorem op_mul2 {X : Cx} : OpR X (binaryOp .Mult) rMul2 := op_mul.or op_mulS
def mulD : PD → PD → R PD
  | .int i, .int j => if mulB i j = true then .ok (.int (i * j)) else .bad
  | .str z, .int k => if small62 k = true ∧ z.length * k.toNat ≤ sizeLine then .ok (.str (mulS z k)) else .bad
  | _, _ => .bad
theorem rd_mul : RD K rMul2 mulD := fun W σ F H x y a b Q s ra rb q => by
  unfold mulD at q
  split at q
  · split at q
    · rename_i h
      exact .inl ⟨_, _, ra.int, rb.int, mulB_ok h, q.ok s _ (.int _)⟩
    · exact q.elim
  · split at q
    · rename_i h
      obtain ⟨h1, h2⟩ := small62_ok h.1
      exact .inr ⟨_, _, ra.str, rb.int, h1, h2, h.2, q.ok s _ (.str _)⟩
    · exact q.elim
  · exact q.elim
def powB (i j : Int) : Bool := decide (0 ≤ j) && decide (j ≤ 1000000) && decide (i.natAbs < 2 ^ 64)
abbrev powD : PD → PD → R PD := iiD powB fun i j => i ^ j.toNat
theorem rd_pow : RD K (rI CPow fun i j => .int (i ^ j.toNat)) powD := rd_I fun i j h => by
  unfold powB at h
  simp only [Bool.and_eq_true, decide_eq_true_eq] at h
  exact ⟨h.1.1, h.1.2, h.2⟩
def negD : PD → R PD
  | .int i => .ok (.int (-i))
  | _ => .bad
theorem ru_neg : RU K (rU fun i => .int (-i)) negD := fun W σ F H x a Q s ra q => by
  unfold negD at q
  split at q
  · exact ⟨_, ra.int, q.ok s _ (.int _)⟩
  · exact q.elim
def cmpD (p : Int → Int → Bool) : PD → PD → R PD
  | .int i, .int j => .ok (.bool (p i j))
  | _, _ => .bad
theorem rd_cmp {p : Int → Int → Bool} : RD K (rI0 fun i j => .bl (p i j)) (cmpD p) := fun W σ F H x y a b Q s ra rb q => by
  unfold cmpD at q
  split at q
  · exact ⟨_, _, ra.int, rb.int, q.ok s _ (.bl _)⟩
  · exact q.elim
abbrev ltD : PD → PD → R PD := cmpD fun i j => decide (i < j)
abbrev leD : PD → PD → R PD := cmpD fun i j => decide (i ≤ j)
abbrev gtD : PD → PD → R PD := cmpD fun i j => decide (j < i)
def eqB : PD → PD → R Bool
  | .int i, .int j => .ok (decide (i = j))
  | .str i, .str j => .ok (decide (i = j))
  | .bool i, .bool j => .ok (decide (i = j))
  | a, b => if SeqAt.shaped a = true ∧ SeqAt.shaped b = true then .ok (PyData.eqv a b) else .bad
def eqD : PD → PD → R PD := fun a b => (eqB a b).bind fun c => .ok (.bool c)
def neD : PD → PD → R PD := fun a b => (eqB a b).bind fun c => .ok (.bool !c)
theorem shaped_nodict {d : PD} (h : SeqAt.shaped d = true) : ∀ kvs, d ≠ .dict kvs := fun kvs e => by
  subst e
  have := SeqAt.canLay_of_shaped h
  simp [PyData.canLay0] at this
theorem shaped_lay {d : PD} (h : SeqAt.shaped d = true) : d.canLay0 = true := SeqAt.canLay_of_shaped h
def rEq2 (K : PySem.W.Frag) : R2 := fun x y H Q => rEq x y H Q ∨ rEqD K x y H Q
def rNe2 (K : PySem.W.Frag) : R2 := fun x y H Q => rNe x y H Q ∨ rNeD K x y H Q
theorem op_eq2 {X : Cx} (hu : X.A.units + 64 < cLine) : OpR X (compareOp .Eq) (rEq2 X.K) := op_eq.or (op_eqD hu)
theorem op_ne2 {X : Cx} (hu : X.A.units + 64 < cLine) : OpR X (compareOp .NotEq) (rNe2 X.K) := op_ne.or (op_neD hu)
theorem dec_inj_int {i j : Int} : decide (V.int i = V.int j) = decide (i = j) := by simp
theorem dec_inj_str {i j : Str} : decide (V.str i = V.str j) = decide (i = j) := by simp
theorem dec_inj_bl {i j : Bool} : decide (V.bl i = V.bl j) = decide (i = j) := by simp
theorem rd_eq : RD K (rEq2 K) eqD := fun W σ F H x y a b Q s ra rb q => by
  unfold eqD at q
  unfold eqB at q
  split at q
  · refine .inl ⟨by rw [ra.int, rb.int]; rfl, ?_⟩
    rw [ra.int, rb.int, dec_inj_int]
    exact Fin.okk (x := PyData.bool _) K W σ s q _ (.bl _)
  · refine .inl ⟨by rw [ra.str, rb.str]; rfl, ?_⟩
    rw [ra.str, rb.str, dec_inj_str]
    exact Fin.okk (x := PyData.bool _) K W σ s q _ (.bl _)
  · refine .inl ⟨by rw [ra.bool, rb.bool]; rfl, ?_⟩
    rw [ra.bool, rb.bool, dec_inj_bl]
    exact Fin.okk (x := PyData.bool _) K W σ s q _ (.bl _)
  · split at q
    · rename_i h
      exact .inr ⟨_, _, (ra.dp s (shaped_nodict h.1)).l2 (shaped_lay h.1), (rb.dp s (shaped_nodict h.2)).l2 (shaped_lay h.2), h.1, h.2, Fin.okk (x := PyData.bool _) K W σ s q _ (.bl _)⟩
    · exact q.elim
theorem rd_ne : RD K (rNe2 K) neD := fun W σ F H x y a b Q s ra rb q => by
  unfold neD at q
  unfold eqB at q
  split at q
  · refine .inl ⟨by rw [ra.int, rb.int]; rfl, ?_⟩
    rw [ra.int, rb.int, dec_inj_int]
    exact Fin.okk (x := PyData.bool _) K W σ s q _ (.bl _)
  · refine .inl ⟨by rw [ra.str, rb.str]; rfl, ?_⟩
    rw [ra.str, rb.str, dec_inj_str]
    exact Fin.okk (x := PyData.bool _) K W σ s q _ (.bl _)
  · refine .inl ⟨by rw [ra.bool, rb.bool]; rfl, ?_⟩
    rw [ra.bool, rb.bool, dec_inj_bl]
    exact Fin.okk (x := PyData.bool _) K W σ s q _ (.bl _)
  · split at q
    · rename_i h
      exact .inr ⟨_, _, (ra.dp s (shaped_nodict h.1)).l2 (shaped_lay h.1), (rb.dp s (shaped_nodict h.2)).l2 (shaped_lay h.2), h.1, h.2, Fin.okk (x := PyData.bool _) K W σ s q _ (.bl _)⟩
    · exact q.elim
def isNB : PD → Bool
  | .none => true
  | _ => false
def isND : PD → PD → R PD := fun a b => match b with
  | .none => .ok (.bool (isNB a))
  | _ => .bad
def notND : PD → PD → R PD := fun a b => match b with
  | .none => .ok (.bool (!isNB a))
  | _ => .bad
theorem isN_ok {F H : Hp} {x : V} {a : PD} (ra : Rp K F H x a) : decide (x = .non) = isNB a := by
  rcases ra with h | ⟨p, rfl, h⟩
  · cases h <;> simp [isNB, encE, encD]
  · cases a with
    | list ds => simp [isNB]
    | dict kvs => simp [isNB]
    | _ => exact h.elim
theorem rd_isN : RD K (fun x y H Q => y = .non ∧ Q (.bl (decide (x = .non))) H) isND := fun W σ F H x y a b Q s ra rb q => by
  unfold isND at q
  split at q
  · refine ⟨rb.none, ?_⟩
    rw [isN_ok ra]
    exact q.ok s _ (.bl _)
  · exact q.elim
def flatP : PD → Bool
  | .none => true
  | .bool _ => true
  | .int _ => true
  | .str _ => true
  | _ => false
def inS (i j : Str) : Bool := !(Builtin.Str.occurrences j i 0 j.length 1).isEmpty
def eqF : PD → PD → Bool
  | .none, .none => true
  | .bool a, .bool b => a == b
  | .bool a, .int b => (if a then 1 else 0) == b
  | .int a, .bool b => a == (if b then 1 else 0)
  | .int a, .int b => a == b
  | .str a, .str b => a == b
  | _, _ => false
def inB : PD → PD → R Bool
  | .str i, .str j => .ok (inS i j)
  | a, .list ds => if flatP a = true ∧ ds.all flatP = true then .ok (ds.any fun d => eqF d a)
      else if SeqAt.shaped a = true ∧ SeqAt.shaped (.list ds) = true then .ok (ds.any fun z => PyData.eqv z a) else .bad
  | a, .tuple ds => if flatP a = true ∧ ds.all flatP = true then .ok (ds.any fun d => eqF d a) else .bad
  | _, _ => .bad
def inD : PD → PD → R PD := fun a b => (inB a b).bind fun c => .ok (.bool c)
def ninD : PD → PD → R PD := fun a b => (inB a b).bind fun c => .ok (.bool !c)
theorem flat_ok {F H : Hp} {v : V} {d : PD} (r : Rp K F H v d) (h : flatP d = true) : flatV v = true := by
  rcases r with r | ⟨p, rfl, r⟩
  · cases r <;> first | rfl | cases h
  · cases d <;> first | exact False.elim r | cases h
theorem flats_ok {F : Hp} : ∀ {vs : List V} {ds : List PD}, DpAll K F vs ds → ds.all flatP = true → vs.all flatV = true
  | _, _, .nil, _ => rfl
  | _, _, .cons r t, h => by
    rw [List.all_cons, Bool.and_eq_true] at h ⊢
    exact ⟨flat_ok (F := F) (H := F) (.inl r) h.1, flats_ok t h.2⟩
theorem eqV_ok {F F' H : Hp} {v u : V} {d e : PD} (r : Dp K F v d) (r' : Rp K F' H u e) (h : flatP d = true) (h' : flatP e = true) : eqV v u = eqF d e := by
  rcases r' with r' | ⟨p, rfl, r'⟩
  · cases r <;> (try cases h) <;> cases r' <;> (try cases h') <;> rfl
  · cases e <;> first | exact False.elim r' | cases h'
theorem any_ok {F F' H : Hp} {u : V} {e : PD} (r' : Rp K F' H u e) (h' : flatP e = true) : ∀ {vs : List V} {ds : List PD}, DpAll K F vs ds → ds.all flatP = true → inV u vs = ds.any fun d => eqF d e
  | _, _, .nil, _ => rfl
  | _, _, .cons r t, h => by
    rw [List.all_cons, Bool.and_eq_true] at h
    have ih := any_ok r' h' t h.2
    unfold inV at ih ⊢
    rw [List.any_cons, List.any_cons, ih, eqV_ok r r' h.1 h']
def rIn2 (K : PySem.W.Frag) : R2 := fun x y H Q => (∃ i j, x = .str i ∧ y = .str j ∧ Q (.bl (!(Builtin.Str.occurrences j i 0 j.length 1).isEmpty)) H) ∨ rIn K false x y H Q ∨ rInD K x y H Q
def rNin2 (K : PySem.W.Frag) : R2 := fun x y H Q => (∃ i j, x = .str i ∧ y = .str j ∧ Q (.bl (!(!(Builtin.Str.occurrences j i 0 j.length 1).isEmpty))) H) ∨ rIn K true x y H Q ∨ rNotInD K x y H Q
theorem op_in2 {X : Cx} (hu : X.A.units + 65 < cLine) : OpR X (compareOp .In) (rIn2 X.K) := op_in_str.or (op_in_seq.or (op_inD hu))
theorem op_nin2 {X : Cx} (hu : X.A.units + 65 < cLine) : OpR X (compareOp .NotIn) (rNin2 X.K) := op_notIn_str.or (op_notIn_seq.or (op_notInD hu))
theorem rd_in : RD K (rIn2 K) inD := fun W σ F H x y a b Q s ra rb q => by
  unfold inD at q
  unfold inB at q
  split at q
  · exact .inl ⟨_, _, ra.str, rb.str, Fin.okk (x := PyData.bool _) K W σ s q _ (.bl _)⟩
  · split at q
    · rename_i h
      obtain ⟨p, vs, rfl, s1, r1⟩ := rb.list s
      refine .inr (.inl ⟨p, vs, rfl, .inl (.inl s1), flat_ok ra h.1, flats_ok r1 h.2, ?_⟩)
      rw [if_neg Bool.false_ne_true, any_ok ra h.1 r1 h.2]
      exact Fin.okk (x := PyData.bool _) K W σ s q _ (.bl _)
    · split at q
      · rename_i h
        exact .inr (.inr ⟨_, _, (ra.dp s (shaped_nodict h.1)).l2 (shaped_lay h.1), (rb.dp s (shaped_nodict h.2)).l2 (shaped_lay h.2), h.1, h.2, Fin.okk (x := PyData.bool _) K W σ s q _ (.bl _)⟩)
      · exact q.elim
  · split at q
    · rename_i h
      obtain ⟨p, vs, rfl, s1, r1⟩ := rb.tuple s
      refine .inr (.inl ⟨p, vs, rfl, .inr s1, flat_ok ra h.1, flats_ok r1 h.2, ?_⟩)
      rw [if_neg Bool.false_ne_true, any_ok ra h.1 r1 h.2]
      exact Fin.okk (x := PyData.bool _) K W σ s q _ (.bl _)
    · exact q.elim
  · exact q.elim
theorem rd_nin : RD K (rNin2 K) ninD := fun W σ F H x y a b Q s ra rb q => by
  unfold ninD at q
  unfold inB at q
  split at q
  · exact .inl ⟨_, _, ra.str, rb.str, Fin.okk (x := PyData.bool _) K W σ s q _ (.bl _)⟩
  · split at q
    · rename_i h
      obtain ⟨p, vs, rfl, s1, r1⟩ := rb.list s
      refine .inr (.inl ⟨p, vs, rfl, .inl (.inl s1), flat_ok ra h.1, flats_ok r1 h.2, ?_⟩)
      rw [if_pos rfl, any_ok ra h.1 r1 h.2]
      exact Fin.okk (x := PyData.bool _) K W σ s q _ (.bl _)
    · split at q
      · rename_i h
        exact .inr (.inr ⟨_, _, (ra.dp s (shaped_nodict h.1)).l2 (shaped_lay h.1), (rb.dp s (shaped_nodict h.2)).l2 (shaped_lay h.2), h.1, h.2, Fin.okk (x := PyData.bool _) K W σ s q _ (.bl _)⟩)
      · exact q.elim
  · split at q
    · rename_i h
      obtain ⟨p, vs, rfl, s1, r1⟩ := rb.tuple s
      refine .inr (.inl ⟨p, vs, rfl, .inr s1, flat_ok ra h.1, flats_ok r1 h.2, ?_⟩)
      rw [if_pos rfl, any_ok ra h.1 r1 h.2]
      exact Fin.okk (x := PyData.bool _) K W σ s q _ (.bl _)
    · exact q.elim
  · exact q.elim
theorem atI_ok {F : Hp} {vs : List V} {ds : List PD} {i : Int} {d : PD} (r : DpAll K F vs ds) (h : atI ds i = some d) : ∃ v, atI vs i = some v ∧ Dp K F v d := by
  unfold atI at h ⊢
  rw [r.length]
  cases e : ixN ds.length i with
  | none => rw [e] at h; cases h
  | some j =>
    rw [e] at h
    exact r.get' h
def ixD : PD → PD → R PD
  | .list ds, .int i => (match atI ds i with
    | some d => .ok d
    | none => .bad)
  | .tuple ds, .int i => (match atI ds i with
    | some d => .ok d
    | none => .bad)
  | .str z, .int i => if z.length ≤ sizeLine then (match atI z.cps.toList i with
    | some c => .ok (.str ⟨#[c]⟩)
    | none => .bad) else .bad
  | _, _ => .bad
theorem rd_ix : RD K (rIx K) ixD := fun W σ F H x y a b Q s ra rb q => by
  unfold ixD at q
  split at q
  · split at q
    · rename_i d e
      obtain ⟨p, vs, rfl, s1, r1⟩ := ra.list s
      obtain ⟨v, h1, h2⟩ := atI_ok r1 e
      exact .inl ⟨p, vs, _, v, rfl, rb.int, .inl s1, h1, q.ok s _ h2⟩
    · exact q.elim
  · split at q
    · rename_i d e
      obtain ⟨p, vs, rfl, s1, r1⟩ := ra.tuple s
      obtain ⟨v, h1, h2⟩ := atI_ok r1 e
      exact .inr (.inl ⟨p, vs, _, v, rfl, rb.int, s1, h1, q.ok s _ h2⟩)
    · exact q.elim
  · split at q
    · rename_i hz
      split at q
      · rename_i c e
        exact .inr (.inr ⟨_, _, c, ra.str, rb.int, hz, e, q.ok s _ (.str _)⟩)
      · exact q.elim
    · exact q.elim
  · exact q.elim
def TDp (K : PySem.W.Frag) (W : WX) (t : TO) (g : Rho → R (Option Int)) : Prop := ∀ (F0 H0 F H : Hp) (σ : L2.St) (ρ : Rho) (Q : Option Int → Hp → Prop), StR K F0 H0 F H σ ρ → Fin K W σ F H (g ρ) (fun o _ H' => Q o H') → t σ H Q
def pNo : Rho → R (Option Int) := fun _ => .ok none
def asI : PD → R Int
  | .int i => .ok i
  | _ => .bad
def pSo (g : Rho → R PD) : Rho → R (Option Int) := fun ρ => (g ρ).bind fun a => (asI a).bind fun i => .ok (some i)
variable {W : WX}
theorem tp_no : TDp K W tNoPart pNo := fun F0 H0 F H σ ρ Q S q => q.ok S.same
theorem tp_some {t : TE} {g : Rho → R PD} (h : TDr K W t g) : TDp K W (tPart t) (pSo g) := fun F0 H0 F H σ ρ Q S q =>
  h F0 H0 F H σ ρ _ S (q.then fun a F1 H1 e1 k1 v rv => by
    cases a with
    | int i => exact ⟨i, rv.int, Fin.okk (x := some i) K W σ e1.g k1⟩
    | _ => exact k1.elim)
def cutD (ds : List PD) (lo hi : Option Int) : List PD := (ds.drop (HT.sIx ds.length 0 lo)).take (HT.sIx ds.length ds.length hi - HT.sIx ds.length 0 lo)
theorem cut_ok {F : Hp} {vs : List V} {ds : List PD} {lo hi : Option Int} (r : DpAll K F vs ds) : DpAll K F (cutV vs lo hi) (cutD ds lo hi) := by
  unfold cutV cutD
  rw [r.length]
  exact (r.drop _).take _
def rSl2 (K : PySem.W.Frag) : V → Option Int → Option Int → Hp → VK → Prop := fun x lo hi H Q => rSlL K x lo hi H Q ∨ rSlA K x lo hi H Q ∨ rSlS x lo hi H Q
theorem sl_2 {X : Cx} : SlR X (rSl2 X.K) := sl_list.or (sl_tupA.or sl_str)
def slD (a : PD) (lo hi : Option Int) : R PD := match a with
  | .list ds => .ok (.list (cutD ds lo hi))
  | .tuple ds => .ok (.tuple (cutD ds lo hi))
  | .str z => if z.length ≤ sizeLine then .ok (.str (cutS z lo hi)) else .bad
  | _ => .bad
def eSl (g : Rho → R PD) (gl gh : Rho → R (Option Int)) : Rho → R PD := fun ρ => (g ρ).bind fun a => (gl ρ).bind fun l => (gh ρ).bind fun h => slD a l h
theorem cut_whole (vs : List V) {lo hi : Option Int} (h : HT.sIx vs.length 0 lo = 0 ∧ HT.sIx vs.length vs.length hi = vs.length) : cutV vs lo hi = vs := by
  unfold cutV
  rw [h.1, h.2]
  simp
theorem cut_same {F : Hp} {vs : List V} {ds : List PD} {lo hi : Option Int} (r : DpAll K F vs ds) (h : HT.sIx vs.length 0 lo = 0 ∧ HT.sIx vs.length vs.length hi = vs.length) : cutD ds lo hi = ds := by
  unfold cutD
  rw [r.length] at h
  rw [h.1, h.2]
  simp
theorem td_sl {t : TE} {g : Rho → R PD} {tl th : TO} {gl gh : Rho → R (Option Int)} (h : TDr K W t g) (hl : TDp K W tl gl) (hh : TDp K W th gh) : TDe K W (tSl (rSl2 K) t tl th) (eSl g gl gh) := fun F0 H0 F H σ ρ Q S q =>
  h F0 H0 F H σ ρ _ S (q.then fun a F1 H1 e1 k1 v rv => hl F0 H0 F1 H1 σ ρ _ (S.go e1) (k1.then fun lo F2 H2 e2 k2 => hh F0 H0 F2 H2 σ ρ _ ((S.go e1).go e2) (k2.then fun hi F3 H3 e3 k3 => by
    have rv := (rv.ext e2.f e2.h).ext e3.f e3.h
    unfold slD at k3
    split at k3
    · obtain ⟨p, vs, rfl, s1, r1⟩ := rv.list e3.g
      exact .inl ⟨p, vs, rfl, .inl s1, fun p hp => new_lst e3.g (cut_ok r1) k3 hp⟩
    · obtain ⟨p, vs, rfl, s1, r1⟩ := rv.tuple e3.g
      refine .inr (.inl ⟨p, vs, rfl, s1, fun hw => ?_, fun hw p hp => new_tup e3.g (cut_ok r1) k3 hp⟩)
      have e := cut_ok (lo := lo) (hi := hi) r1
      rw [cut_whole vs hw] at e
      refine Fin.okk (x := PyData.tuple _) K W σ e3.g k3 _ ?_
      rcases rv with rv | ⟨p', e', z⟩
      · rw [cut_same r1 hw]
        exact rv
      · exact z.elim
    · split at k3
      · rename_i hz
        exact .inr (.inr ⟨_, rv.str, hz, Fin.okk (x := PyData.str _) K W σ e3.g k3 _ (.str _)⟩)
      · exact k3.elim
    · exact k3.elim)))
def slL (a : PD) (lo hi : Option Int) : R PD := match a with
  | .list ds => .ok (.list (cutD ds lo hi))
  | _ => .bad
def oSl (g : Rho → R PD) (gl gh : Rho → R (Option Int)) : Rho → R PD := fun ρ => (g ρ).bind fun a => (gl ρ).bind fun l => (gh ρ).bind fun h => slL a l h
theorem OwQ.back {F H F1 H1 : Hp} {σ : L2.St} {r : R PD} {Q : VK} (e : Ext F H F1 H1) (h : Fin K W σ F1 H1 r (OwQ K H Q)) : Fin K W σ F1 H1 r (OwQ K H1 Q) :=
  h.imp fun x F' H' e2 k p hp hf ho => k p (e.h.free hp) hf ho
theorem to_sl {t : TE} {g : Rho → R PD} {tl th : TO} {gl gh : Rho → R (Option Int)} (h : TDr K W t g) (hl : TDp K W tl gl) (hh : TDp K W th gh) : TDo K W (tSl (rSl2 K) t tl th) (oSl g gl gh) := fun F0 H0 F H σ ρ Q S q =>
  h F0 H0 F H σ ρ _ S (q.then fun a F1 H1 e1 k1 v rv => hl F0 H0 F1 H1 σ ρ _ (S.go e1) (k1.then fun lo F2 H2 e2 k2 => hh F0 H0 F2 H2 σ ρ _ ((S.go e1).go e2) (k2.then fun hi F3 H3 e3 k3 => by
    have rv := (rv.ext e2.f e2.h).ext e3.f e3.h
    have k3 := OwQ.back ((e1.trans e2).trans e3) k3
    unfold slL at k3
    split at k3
    · obtain ⟨p, vs, rfl, s1, r1⟩ := rv.list e3.g
      exact .inl ⟨p, vs, rfl, .inl s1, fun p hp => own_lst e3.g (cut_ok r1) k3 hp⟩
    · exact k3.elim)))
def RC (K : PySem.W.Frag) (r : List V → Hp → VK → Prop) (f : List PD → R PD) : Prop := ∀ (W : WX) (σ : L2.St) (F H : Hp) (vs : List V) (ds : List PD) (Q : VK), Same F H → RpAll K F H vs ds → Fin K W σ F H (f ds) (DpQ K Q) → r vs H Q
def RCo (K : PySem.W.Frag) (r : List V → Hp → VK → Prop) (f : List PD → R PD) : Prop := ∀ (W : WX) (σ : L2.St) (F H : Hp) (vs : List V) (ds : List PD) (Q : VK), Same F H → RpAll K F H vs ds → Fin K W σ F H (f ds) (OwQ K H Q) → r vs H Q
variable {ta : TA} {ga : Rho → R (List PD)} {r : List V → Hp → VK → Prop} {f : List PD → R PD}
def eCB (f : List PD → R PD) (ga : Rho → R (List PD)) : Rho → R PD := fun ρ => (ga ρ).bind f
theorem td_cb (hr : RC K r f) (h : TDq K W ta ga) : TDe K W (tCB r ta) (eCB f ga) := fun F0 H0 F H σ ρ Q S q =>
  h F0 H0 F H σ ρ _ S (q.then fun ds F1 H1 e1 k1 vs rs => hr W σ F1 H1 vs ds Q e1.g rs k1)
theorem to_cb (hr : RCo K r f) (h : TDq K W ta ga) : TDo K W (tCB r ta) (eCB f ga) := fun F0 H0 F H σ ρ Q S q =>
  h F0 H0 F H σ ρ _ S (q.then fun ds F1 H1 e1 k1 vs rs => hr W σ F1 H1 vs ds Q e1.g rs (OwQ.back e1 k1))
theorem RpAll.one {F H : Hp} {vs : List V} {d : PD} (r : RpAll K F H vs [d]) : ∃ v, vs = [v] ∧ Rp K F H v d := by
  cases r with
  | cons a b => cases b; exact ⟨_, rfl, a⟩
theorem RpAll.two {F H : Hp} {vs : List V} {d e : PD} (r : RpAll K F H vs [d, e]) : ∃ v u, vs = [v, u] ∧ Rp K F H v d ∧ Rp K F H u e := by
  cases r with
  | cons a b =>
    obtain ⟨u, rfl, c⟩ := b.one
    exact ⟨_, _, rfl, a, c⟩
def lenD : List PD → R PD
  | [.list ds] => .ok (.int ds.length)
  | [.tuple ds] => .ok (.int ds.length)
  | [.str z] => if z.length ≤ sizeLine then .ok (.int z.length) else .bad
  | _ => .bad
theorem rc_len : RC K (fun xs H Q => ∃ x n, xs = [x] ∧ LenV K x H n ∧ Q (.int n) H) lenD := fun W σ F H vs ds Q s rs q => by
  unfold lenD at q
  split at q
  · obtain ⟨v, rfl, r⟩ := rs.one
    obtain ⟨p, us, rfl, s1, r1⟩ := r.list s
    exact ⟨_, _, rfl, .inl ⟨us, .inl s1, r1.length.symm⟩, q.ok s _ (.int _)⟩
  · obtain ⟨v, rfl, r⟩ := rs.one
    obtain ⟨p, us, rfl, s1, r1⟩ := r.tuple s
    exact ⟨_, _, rfl, .inr ⟨us, s1, r1.length.symm⟩, q.ok s _ (.int _)⟩
  · split at q
    · rename_i hz
      obtain ⟨v, rfl, r⟩ := rs.one
      exact ⟨_, _, rfl, by rw [r.str]; exact ⟨hz, rfl⟩, q.ok s _ (.int _)⟩
    · exact q.elim
  · exact q.elim
def rList (K : PySem.W.Frag) : List V → Hp → VK → Prop := fun xs H Q => ∃ p ys, xs = [.ref p] ∧ (SqL K H p ys ∨ SqT K H p ys) ∧ ∀ l, H l = none → Q (.ref l) (upd H l (.lst ys))
def listD : List PD → R PD
  | [.list ds] => .ok (.list ds)
  | [.tuple ds] => .ok (.list ds)
  | _ => .bad
theorem rco_list : RCo K (rList K) listD := fun W σ F H vs ds Q s rs q => by
  unfold listD at q
  split at q
  · obtain ⟨v, rfl, r⟩ := rs.one
    obtain ⟨p, us, rfl, s1, r1⟩ := r.list s
    exact ⟨_, _, rfl, .inl (.inl s1), fun l hl => own_lst s r1 q hl⟩
  · obtain ⟨v, rfl, r⟩ := rs.one
    obtain ⟨p, us, rfl, s1, r1⟩ := r.tuple s
    exact ⟨_, _, rfl, .inr s1, fun l hl => own_lst s r1 q hl⟩
  · exact q.elim
def tupleD : List PD → R PD
  | [.list ds] => .ok (.tuple ds)
  | [.tuple ds] => .ok (.tuple ds)
  | _ => .bad
def asInts : List PD → Option (List Int)
  | [] => some []
  | .int i :: ds => (asInts ds).map (i :: ·)
  | _ => none
theorem asInts_ok : ∀ {ds : List PD} {ns : List Int}, asInts ds = some ns → ds = ns.map PyData.int
  | [], _, h => by cases h; rfl
  | d :: ds, ns, h => by
    cases d with
    | int i =>
      have h : (asInts ds).map (i :: ·) = some ns := h
      cases e : asInts ds with
      | none => rw [e] at h; cases h
      | some l => rw [e] at h; cases h; rw [asInts_ok e]; rfl
    | _ => cases h
theorem asInts_map : ∀ ns : List Int, asInts (ns.map PyData.int) = some ns
  | [] => rfl
  | n :: ns => by
    show (asInts (ns.map PyData.int)).map (n :: ·) = _
    rw [asInts_map ns]; rfl
def asStrs : List PD → Option (List Str)
  | [] => some []
  | .str i :: ds => (asStrs ds).map (i :: ·)
  | _ => none
theorem asStrs_ok : ∀ {ds : List PD} {ns : List Str}, asStrs ds = some ns → ds = ns.map PyData.str
  | [], _, h => by cases h; rfl
  | d :: ds, ns, h => by
    cases d with
    | str i =>
      have h : (asStrs ds).map (i :: ·) = some ns := h
      cases e : asStrs ds with
      | none => rw [e] at h; cases h
      | some l => rw [e] at h; cases h; rw [asStrs_ok e]; rfl
    | _ => cases h
theorem asStrs_map : ∀ ns : List Str, asStrs (ns.map PyData.str) = some ns
  | [] => rfl
  | n :: ns => by
    show (asStrs (ns.map PyData.str)).map (n :: ·) = _
    rw [asStrs_map ns]; rfl
def asBools : List PD → Option (List Bool)
  | [] => some []
  | .bool i :: ds => (asBools ds).map (i :: ·)
  | _ => none
theorem asBools_ok : ∀ {ds : List PD} {ns : List Bool}, asBools ds = some ns → ds = ns.map PyData.bool
  | [], _, h => by cases h; rfl
  | d :: ds, ns, h => by
    cases d with
    | bool i =>
      have h : (asBools ds).map (i :: ·) = some ns := h
      cases e : asBools ds with
      | none => rw [e] at h; cases h
      | some l => rw [e] at h; cases h; rw [asBools_ok e]; rfl
    | _ => cases h
theorem asBools_map : ∀ ns : List Bool, asBools (ns.map PyData.bool) = some ns
  | [] => rfl
  | n :: ns => by
    show (asBools (ns.map PyData.bool)).map (n :: ·) = _
    rw [asBools_map ns]; rfl
def sumD : List PD → R PD
  | [.list ds] => (match asInts ds with
    | some ns => .ok (.int ns.sum)
    | none => .bad)
  | _ => .bad
theorem rc_sum : RC K (rSum K) sumD := fun W σ F H vs ds Q s rs q => by
  unfold sumD at q
  split at q
  · split at q
    · rename_i ns e
      obtain ⟨v, rfl, r⟩ := rs.one
      obtain ⟨p, us, rfl, s1, r1⟩ := r.list s
      rw [asInts_ok e] at r1
      have e2 := r1.of_ints
      subst e2
      exact ⟨p, ns, rfl, .inl s1, q.ok s _ (.int _)⟩
    · exact q.elim
  · exact q.elim
def anyD : List PD → R PD
  | [.list ds] => (match asBools ds with
    | some bs => .ok (.bool (bs.any id))
    | none => .bad)
  | _ => .bad
def allD : List PD → R PD
  | [.list ds] => (match asBools ds with
    | some bs => .ok (.bool (bs.all id))
    | none => .bad)
  | _ => .bad
theorem rc_all : RC K (rAll K) allD := fun W σ F H vs ds Q s rs q => by
  unfold allD at q
  split at q
  · split at q
    · rename_i ns e
      obtain ⟨v, rfl, r⟩ := rs.one
      obtain ⟨p, us, rfl, s1, r1⟩ := r.list s
      rw [asBools_ok e] at r1
      have e2 := r1.of_bls
      subst e2
      exact ⟨p, ns, rfl, .inl s1, q.ok s _ (.bl _)⟩
    · exact q.elim
  · exact q.elim
def rMax2 : List V → Hp → VK → Prop := fun xs H Q => ∃ i j, xs = [.int i, .int j] ∧ Q (.int (if j > i then j else i)) H
def max2D : List PD → R PD
  | [.int i, .int j] => .ok (.int (if j > i then j else i))
  | _ => .bad
def min2D : List PD → R PD
  | [.int i, .int j] => .ok (.int (if j < i then j else i))
  | _ => .bad
theorem rc_max2 : RC K rMax2 max2D := fun W σ F H vs ds Q s rs q => by
  unfold max2D at q
  split at q
  · obtain ⟨v, u, rfl, r1, r2⟩ := rs.two
    exact ⟨_, _, by rw [r1.int, r2.int], q.ok s _ (.int _)⟩
  · exact q.elim
def strD : List PD → R PD
  | [.int i] => if i.natAbs.log2 < 1920 then .ok (.str (toString i)) else .bad
  | _ => .bad
theorem rc_str : RC K (fun xs H Q => ∃ i : Int, xs = [.int i] ∧ i.natAbs.log2 < 1920 ∧ Q (.str (toString i)) H) strD := fun W σ F H vs ds Q s rs q => by
  unfold strD at q
  split at q
  · split at q
    · rename_i h
      obtain ⟨v, rfl, r1⟩ := rs.one
      exact ⟨_, by rw [r1.int], h, q.ok s _ (.str _)⟩
    · exact q.elim
  · exact q.elim
def rInt : List V → Hp → VK → Prop := fun xs H Q => ((∃ i, xs = [.int i] ∧ Q (.int i) H) ∨ ∃ k, xs = [.bl k] ∧ Q (.int (if k then 1 else 0)) H) ∨ ∃ a n, xs = [.str a] ∧ PySem.intText? a = some n ∧ a.length ≤ 640 ∧ Q (.int n) H
theorem call_int3 {X : Cx} : CallR X (.type "int") rInt := call_int1.or call_int_str
def intD : List PD → R PD
  | [.int i] => .ok (.int i)
  | [.bool k] => .ok (.int (if k = true then 1 else 0))
  | [.str a] => (match PySem.intText? a with
    | some n => if a.length ≤ 640 then .ok (.int n) else .bad
    | none => .bad)
  | _ => .bad
theorem rc_int : RC K rInt intD := fun W σ F H vs ds Q s rs q => by
  unfold intD at q
  split at q
  · obtain ⟨v, rfl, r1⟩ := rs.one
    exact .inl (.inl ⟨_, by rw [r1.int], q.ok s _ (.int _)⟩)
  · obtain ⟨v, rfl, r1⟩ := rs.one
    exact .inl (.inr ⟨_, by rw [r1.bool], q.ok s _ (.int _)⟩)
  · split at q
    · rename_i n e
      split at q
      · rename_i h
        obtain ⟨v, rfl, r1⟩ := rs.one
        exact .inr ⟨_, _, by rw [r1.str], e, h, q.ok s _ (.int _)⟩
      · exact q.elim
    · exact q.elim
  · exact q.elim
def tyName : PD → Option String
  | .none => some "NoneType"
  | .bool _ => some "bool"
  | .int _ => some "int"
  | .str _ => some "str"
  | .list _ => some "list"
  | .tuple _ => some "tuple"
  | .dict _ => none
def isiB (T : String) (a : PD) : Option Bool := (tyName a).bind fun n => kitB n T
def isiD (T : String) : PD → R PD := fun a => match isiB T a with
  | some b => .ok (.bool b)
  | none => .bad
theorem tyX_of {F H : Hp} {x : V} {a : PD} {n : String} (s : Same F H) (ra : Rp K F H x a) (h : tyName a = some n) : TyX K H x (.type n) := by
  cases a with
  | none => cases h; rw [ra.none]; exact .base .non
  | bool b => cases h; rw [ra.bool]; exact .base (.bl b)
  | int b => cases h; rw [ra.int]; exact .base (.int b)
  | str b => cases h; rw [ra.str]; exact .base (.str b)
  | list ds =>
    cases h
    obtain ⟨p, vs, rfl, s1, r1⟩ := ra.list s
    rcases s1 with z | ⟨o, z⟩
    · exact .base (.lst z)
    · exact .base (.frz z)
  | tuple ds =>
    cases h
    obtain ⟨p, vs, rfl, s1, r1⟩ := ra.tuple s
    rcases s1 with (z | ⟨o, z⟩) | ⟨o, its, n, z1, z2, _⟩
    · exact .base (.tup z)
    · exact .fTuple z
    · exact .kTuple z1 z2
  | dict kvs => cases h
def eIsi (T : String) (g : Rho → R PD) : Rho → R PD := fun ρ => (g ρ).bind (isiD T)
theorem td_isi {t : TE} {g : Rho → R PD} {T : String} (h : TDr K W t g) : TDe K W (tCB (rIsi K) (tCons t (tCons (tC (.ty T)) tNil))) (eIsi T g) := fun F0 H0 F H σ ρ Q S q =>
  h F0 H0 F H σ ρ _ S (q.then fun a F1 H1 e1 k1 v rv => by
    unfold isiD at k1
    split at k1
    · rename_i b e
      unfold isiB at e
      cases en : tyName a with
      | none => rw [en] at e; cases e
      | some n =>
        rw [en] at e
        exact ⟨v, .ty T, .type n, .type T, b, rfl, .ty T, tyX_of e1.g rv en, kit_ty e, k1.ok e1.g _ (.bl b)⟩
    · exact k1.elim)
def RM (K : PySem.W.Frag) (r : V → List V → Hp → VK → Prop) (f : PD → List PD → R PD) : Prop := ∀ (W : WX) (σ : L2.St) (F H : Hp) (x : V) (a : PD) (vs : List V) (ds : List PD) (Q : VK), Same F H → Rp K F H x a → RpAll K F H vs ds → Fin K W σ F H (f a ds) (DpQ K Q) → r x vs H Q
def RMo (K : PySem.W.Frag) (r : V → List V → Hp → VK → Prop) (f : PD → List PD → R PD) : Prop := ∀ (W : WX) (σ : L2.St) (F H : Hp) (x : V) (a : PD) (vs : List V) (ds : List PD) (Q : VK), Same F H → Rp K F H x a → RpAll K F H vs ds → Fin K W σ F H (f a ds) (OwQ K H Q) → r x vs H Q
def strOf (a : PD) (k : R PD) : R PD := match a with
  | .str _ => k
  | _ => .bad
def eM0 (f : PD → List PD → R PD) (g : Rho → R PD) : Rho → R PD := fun ρ => (g ρ).bind fun a => strOf a (f a [])
def eM1 (f : PD → List PD → R PD) (g ge : Rho → R PD) : Rho → R PD := fun ρ => (g ρ).bind fun a => strOf a ((ge ρ).bind fun b => f a [b])
theorem strOf_k {F H : Hp} {σ : L2.St} {a : PD} {x : V} {k : R PD} {P : PD → Hp → Hp → Prop} (ra : Rp K F H x a) (h : Fin K W σ F H (strOf a k) P) : (∃ z, x = .str z) ∧ Fin K W σ F H k P := by
  unfold strOf at h
  split at h
  · exact ⟨⟨_, ra.str⟩, h⟩
  · exact h.elim
variable {t te : TE} {g ge : Rho → R PD} {rm : V → List V → Hp → VK → Prop} {fm : PD → List PD → R PD}
theorem to_m0 (hr : RMo K rm fm) (h : TDr K W t g) : TDo K W (tM0 rm t) (eM0 fm g) := fun F0 H0 F H σ ρ Q S q =>
  h F0 H0 F H σ ρ _ S (q.then fun a F1 H1 e1 k1 v rv => by
    obtain ⟨z, k2⟩ := strOf_k rv k1
    exact ⟨z, hr W σ F1 H1 v a [] [] Q e1.g rv .nil (OwQ.back e1 k2)⟩)
theorem td_m1 (hr : RM K rm fm) (h : TDr K W t g) (he : TDr K W te ge) : TDe K W (tM1 rm t te) (eM1 fm g ge) := fun F0 H0 F H σ ρ Q S q =>
  h F0 H0 F H σ ρ _ S (q.then fun a F1 H1 e1 k1 v rv => by
    obtain ⟨z, k2⟩ := strOf_k rv k1
    exact ⟨z, he F0 H0 F1 H1 σ ρ _ (S.go e1) (k2.then fun b F2 H2 e2 k3 u ru => hr W σ F2 H2 v a [u] [b] Q e2.g (rv.ext e2.f e2.h) (.cons ru .nil) k3)⟩)
theorem to_m1 (hr : RMo K rm fm) (h : TDr K W t g) (he : TDr K W te ge) : TDo K W (tM1 rm t te) (eM1 fm g ge) := fun F0 H0 F H σ ρ Q S q =>
  h F0 H0 F H σ ρ _ S (q.then fun a F1 H1 e1 k1 v rv => by
    obtain ⟨z, k2⟩ := strOf_k rv k1
    exact ⟨z, he F0 H0 F1 H1 σ ρ _ (S.go e1) (k2.then fun b F2 H2 e2 k3 u ru => hr W σ F2 H2 v a [u] [b] Q e2.g (rv.ext e2.f e2.h) (.cons ru .nil) (OwQ.back (e1.trans e2) k3))⟩)
def rSplit : V → List V → Hp → VK → Prop := fun x xs H Q => ∃ a b : Str, x = .str a ∧ xs = [.str b] ∧ (b.length == 0) = false ∧ a.length + 2 ≤ sizeLine ∧ rNewStrs (Txt.split a b) H Q
def splitD : PD → List PD → R PD
  | .str a, [.str b] => if (b.length == 0) = false ∧ a.length + 2 ≤ sizeLine then .ok (.list ((Txt.split a b).map PyData.str)) else .bad
  | _, _ => .bad
theorem rmo_split : RMo K rSplit splitD := fun W σ F H x a vs ds Q s ra rs q => by
  unfold splitD at q
  split at q
  · split at q
    · rename_i h
      obtain ⟨v, rfl, r1⟩ := rs.one
      exact ⟨_, _, ra.str, by rw [r1.str], h.1, h.2, fun p hp => own_lst s DpAll.strs q hp⟩
    · exact q.elim
  · exact q.elim
def rWords : V → List V → Hp → VK → Prop := fun x xs H Q => ∃ a : Str, x = .str a ∧ xs = [] ∧ a.length + 2 ≤ sizeLine ∧ rNewStrs (Txt.words a) H Q
def wordsD : PD → List PD → R PD
  | .str a, [] => if a.length + 2 ≤ sizeLine then .ok (.list ((Txt.words a).map PyData.str)) else .bad
  | _, _ => .bad
theorem rmo_words : RMo K rWords wordsD := fun W σ F H x a vs ds Q s ra rs q => by
  unfold wordsD at q
  split at q
  · split at q
    · rename_i h
      cases rs
      exact ⟨_, ra.str, rfl, h, fun p hp => own_lst s DpAll.strs q hp⟩
    · exact q.elim
  · exact q.elim
def rJoin (K : PySem.W.Frag) : V → List V → Hp → VK → Prop := fun x xs H Q => ∃ a p, ∃ ys : List Str, x = .str a ∧ xs = [.ref p] ∧ (SqL K H p (ys.map V.str) ∨ SqT K H p (ys.map V.str)) ∧
    (ys.map (·.length)).sum + ys.length * a.length ≤ 16777216 ∧ Q (.str (Txt.join a ys)) H
def joinD : PD → List PD → R PD
  | .str a, [.list ds] => (match asStrs ds with
    | some ys => if (ys.map (·.length)).sum + ys.length * a.length ≤ 16777216 then .ok (.str (Txt.join a ys)) else .bad
    | none => .bad)
  | _, _ => .bad
theorem rm_join : RM K (rJoin K) joinD := fun W σ F H x a vs ds Q s ra rs q => by
  unfold joinD at q
  split at q
  · split at q
    · rename_i ys e
      split at q
      · rename_i h
        obtain ⟨v, rfl, r1⟩ := rs.one
        obtain ⟨p, us, rfl, s1, r2⟩ := r1.list s
        rw [asStrs_ok e] at r2
        have e2 := r2.of_strs
        subst e2
        exact ⟨_, p, ys, ra.str, rfl, .inl (.inl s1), h, q.ok s _ (.str _)⟩
      · exact q.elim
    · exact q.elim
  · exact q.elim
def rStarts : V → List V → Hp → VK → Prop := fun x xs H Q => ∃ a b, x = .str a ∧ xs = [.str b] ∧ Q (.bl (Txt.startswith a b)) H
def startsD : PD → List PD → R PD
  | .str a, [.str b] => .ok (.bool (Txt.startswith a b))
  | _, _ => .bad
theorem rm_starts : RM K rStarts startsD := fun W σ F H x a vs ds Q s ra rs q => by
  unfold startsD at q
  split at q
  · obtain ⟨v, rfl, r1⟩ := rs.one
    exact ⟨_, _, ra.str, by rw [r1.str], q.ok s _ (.bl _)⟩
  · exact q.elim
def countD : PD → List PD → R PD
  | .str a, [.str b] => .ok (.int (Txt.count a b))
  | _, _ => .bad
def ownL (ρ : Rho) (i : Nat) (k : List PD → SR) : SR := match ρ[i]? with
  | some (some (.t (.own (.list ds)))) => k ds
  | _ => .bad
def sAppend (i : Nat) (g : Rho → R PD) : Rho → SR := fun ρ => ownL ρ i fun ds => SR.of (g ρ) fun x => if ds.length < sizeLine then .nx (ρ.set i (some (.o (.list (ds ++ [x]))))) else .bad
theorem ownL_k {F0 H0 F H : Hp} {σ : L2.St} {ρ : Rho} {D : Ends} {i : Nat} {k : List PD → SR} (S : StR K F0 H0 F H σ ρ) (h : FinS K W F0 H0 D (ownL ρ i k)) :
    ∃ p ds vs, ρ[i]? = some (some (Sl.o (.list ds))) ∧ σ[i]? = some (some (.ref p)) ∧ H p = some (.lst vs) ∧ DpAll K F vs ds ∧ FinS K W F0 H0 D (k ds) := by
  unfold ownL at h
  split at h
  · rename_i ds e
    obtain ⟨p, a, b, c, vs, d1, d2⟩ := S.own i _ e
    exact ⟨p, ds, vs, e, a, d1, d2, h⟩
  · exact h.elim
theorem ds_append (i : Nat) (h : TDe K W te g) : TDS K W (tDrop (tBM K "list" rAppend (tVar i) (tCons te tNil))) (sAppend i g) := fun F0 H0 F H σ ρ D S q => by
  obtain ⟨p, ds, vs, h1, h2, h3, h4, k⟩ := ownL_k S q
  refine ⟨.ref p, h2, .inl ⟨rfl, vs, SqL.of h3⟩, h F0 H0 F H σ ρ _ S (k.of S.ext fun x F1 H1 e1 k v rv => ?_)⟩
  have k : FinS K W F0 H0 D (if ds.length < sizeLine then .nx (ρ.set i (some (.o (.list (ds ++ [x]))))) else .bad) := k
  by_cases hl : ds.length < sizeLine
  · rw [if_pos hl] at k
    refine ⟨p, vs, v, rfl, rfl, e1.h p _ h3, by rw [h4.length]; exact hl, ?_⟩
    exact k σ F1 _ ((S.go e1).mut h1 h2 ⟨_, upd_same, (h4.mono e1.f).append (.cons rv .nil)⟩)
  · rw [if_neg hl] at k
    exact k.elim
end
end DL
namespace DL
open PySem PySem.Spec PyProof.Rows L2
def Kept (P : Program) (w : World) (K : PySem.W.Frag) (mg : Str → Option Value) (base : Heap) (k n : Nat) (x : Str) (ps : List Str) (f : List PD → FR) : Prop :=
  ∃ fd : FuncData, PySem.W.keepIn K (.ref (He.ga K x)) = true ∧ mg x = some (.ref (He.ga K x)) ∧ Binds K fd ps [] ∧ FnOk P w K mg base (L2.CX P w) k (He.ga K x) fd ps (spD K n f)
theorem hu65 {A : Around} {k : Nat} (hr : Room k A) : A.units + 65 < cLine := by have := hr.un; omega
theorem law_end {l : PySem.W.OpenLaw} {n k : Nat} {q : Program} {loose : List Str} {XP : (Str → Option Value) → Heap → Prop} {d : DefRec} {fa : List He.Fa} {fn : List He.DefD} {ex : PySem.W.Frag → Bool} {YP : World → Heap → Prop} {x : Str} {f : List PD → FR}
    (hY : YP = (hookN n fa fn ex).says)
    (hn : l.most = some 63) (hdf : d.params.defaults = []) (hr : Room k callerA) (hd : d.name = ("law" : Str))
    (F : ∀ (w : World) (K : PySem.W.Frag) (h : Heap) (mg : Str → Option Value), K.In h → h.Ns mainGlobals mg → ex K = true → He.SaysD fa fn K →
      ∃ fd : FuncData, (∀ (s : Shared) (u : Value), BindsTo s fd ⟨[u], []⟩ [(x, u)]) ∧ mg ("law" : Str) = some (.ref (He.ga K ("law" : Str))) ∧ ∀ base : Heap, K.In base → base.Ns mainGlobals mg → FnOk l.prog w K mg base (L2.CX l.prog w) k (He.ga K ("law" : Str)) fd [x] (spD K 1 f))
    (T : ∀ ns : List Int, ns.length ≤ 63 → f [.list (ns.map PyData.int)] = .rt (.d (.bool true))) :
    PySem.W.WalkO q loose XP YP l.row.toRowW d [] (fun f vs => PySem.call f vs) := by
  subst hY
  refine Att.attach_call hn hdf fun w s₀ s₁ mg mb fa o pm cd doc a vs ns G Y ho hd' hcd hmg hobj hints hlen hg => ?_
  obtain ⟨K, KX, nol, hex, c⟩ := Y
  obtain ⟨fd, hb, hl, hF⟩ := F w K _ mg KX G.T.g hex c
  rw [hd, hl] at hmg
  cases hmg
  exact law_call KX G.T.g G.T.b G.T.builtins G.T.nolimit hg hobj hints (Nat.le_trans hlen (by decide)) hr hF hb (fun H hO hS => by
    refine ⟨rfl, H, [.list (ns.map PyData.int)], Same.refl H, .cons (.lst (xs := ns.map V.int) ?_ DpAll.ints) .nil, ?_⟩
    · rcases hS with h | ⟨o, its, m, h1, h2, _⟩
      · exact h
      · exact absurd h2 (nol _ _ h1)
    · rw [T ns hlen]
      intro v F1 H1 _ r
      cases r
      rfl) fun H e s' z => by
        obtain ⟨_, _, _, _, _, _, _, _, _, _, _, _, z⟩ := z
        exact z
theorem bb_len : bootBuiltins "len" = some (.builtin "len") := by decide +kernel
theorem bb_sum : bootBuiltins "sum" = some (.builtin "sum") := by decide +kernel
theorem bb_all : bootBuiltins "all" = some (.builtin "all") := by decide +kernel
theorem bb_max : bootBuiltins "max" = some (.builtin "max") := by decide +kernel
theorem bb_sorted : bootBuiltins "sorted" = some (.builtin "sorted") := by decide +kernel
theorem bb_isinstance : bootBuiltins "isinstance" = some (.builtin "isinstance") := by decide +kernel
theorem bb_int : bootBuiltins "int" = some (.type "int") := by decide +kernel
theorem bb_str : bootBuiltins "str" = some (.type "str") := by decide +kernel
theorem bb_list : bootBuiltins "list" = some (.type "list") := by decide +kernel
theorem bb_tuple : bootBuiltins "tuple" = some (.type "tuple") := by decide +kernel
section
variable {K : PySem.W.Frag} {W : WX}
theorem dp_strs {F : Hp} : ∀ xs : List Str, DpAll K F ((xs.map He.Dv.str).map (He.Dv.v K)) (xs.map PyData.str)
  | [] => .nil
  | x :: xs => .cons (.str x) (dp_strs xs)
theorem strs_flat : ∀ xs : List Str, (xs.map PyData.str).all flatP = true
  | [] => rfl
  | x :: xs => by rw [List.map_cons, List.all_cons, strs_flat xs]; rfl
def eInK (xs : List Str) (g : Rho → R PD) : Rho → R PD := fun ρ => (g ρ).bind fun a => if flatP a = true then .ok (.bool ((xs.map PyData.str).any fun d => eqF d a)) else .bad
theorem td_inK {a : Addr} {xs : List Str} {t : TE} {g : Rho → R PD} (hk : ∀ F : Hp, SqT K F a ((xs.map He.Dv.str).map (He.Dv.v K))) (h : TDr K W t g) : TDe K W (tOp (rIn2 K) t (tC (.ref a))) (eInK xs g) := fun F0 H0 F H σ ρ Q S q =>
  h F0 H0 F H σ ρ _ S (q.then fun d F1 H1 e1 k1 v rv => by
    by_cases hd : flatP d = true
    · rw [if_pos hd] at k1
      have fl := strs_flat xs
      refine .inr (.inl ⟨a, _, rfl, .inr (hk H1), flat_ok rv hd, flats_ok (dp_strs (F := F1) xs) fl, ?_⟩)
      rw [if_neg Bool.false_ne_true, any_ok rv hd (dp_strs (F := F1) xs) fl]
      exact Fin.okk (x := PyData.bool _) K W σ e1.g k1 _ (.bl _)
    · rw [if_neg hd] at k1
      exact k1.elim)
end
end DL
namespace DL
open PySem PySem.Spec PyProof.Rows L2
theorem fn_of0 {P : Program} {w : World} {K : PySem.W.Frag} {mg : Str → Option Value} {base : Heap} {x : Str} {params : Arguments} {body : List Stmt} {scope : Scope} {N ps : List Str} {k n : Nat} {s : Rho → SR} {f : List PD → FR} {fd : FuncData}
    (FD : FunD K x x params body scope [] [] (He.ga K x) fd) (S : FnScope N ps scope) (hn : ps.length = n) (hf : f = runD N.length s)
    (hb : ∀ (cdv : Value) (A : Around) (outer : List Env) (sh : Shared) (H : Hp) (E : XK), Room k (A.deeper (envOfC x scope sh.heap.objs.size (He.ga K x) cdv)) →
      Takes (cxOf (L2.CX P w) P w K mg base N x scope (He.ga K x) cdv A outer sh H E) (fun cls d _ H => E cls d H) →
      ∃ t, PSs (cxOf (L2.CX P w) P w K mg base N x scope (He.ga K x) cdv A outer sh H E) body t ∧ TDS K (fun cls d _ H => E cls d H) t s) : FnOk P w K mg base (L2.CX P w) (k + 1) (He.ga K x) fd ps (spD K n f) := by
  subst hn hf
  exact fnD FD S hb
theorem kept_of {P : Program} {w : World} {K : PySem.W.Frag} {mg : Str → Option Value} {base : Heap} {x : Str} {params : Arguments} {body : List Stmt} {scope : Scope} {N ps : List Str} {k n : Nat} {s : Rho → SR} {f : List PD → FR}
    (hF : ∃ fd : FuncData, FunD K x x params body scope [] [] (He.ga K x) fd) (hg : mg x = some (.ref (He.ga K x))) (S : FnScope N ps scope) (hn : ps.length = n) (hf : f = runD N.length s)
    (hbd : ∀ (kV doc pm : Value) (an : Option Addr) (cdv ct : Value) (us : List Value), us.length = ps.length → bindArgs (PySem.W.fnOf x x params body scope .none kV doc pm an cdv ct) ⟨us, []⟩ = pure (ps.zip us))
    (hb : ∀ (cdv : Value) (A : Around) (outer : List Env) (sh : Shared) (H : Hp) (E : XK), Room k (A.deeper (envOfC x scope sh.heap.objs.size (He.ga K x) cdv)) →
      Takes (cxOf (L2.CX P w) P w K mg base N x scope (He.ga K x) cdv A outer sh H E) (fun cls d _ H => E cls d H) →
      ∃ t, PSs (cxOf (L2.CX P w) P w K mg base N x scope (He.ga K x) cdv A outer sh H E) body t ∧ TDS K (fun cls d _ H => E cls d H) t s) : Kept P w K mg base (k + 1) n x ps f := by
  obtain ⟨fd, FD⟩ := hF
  subst hn hf
  exact ⟨fd, FD.kp, hg, FD.bindsN hbd, fnD FD S hb⟩
end DL
namespace DL
open PySem PySem.Spec PyProof.Rows L2
def keyOf : PD → Option Key
  | .int i => some (.inl i)
  | .str s => some (.inr s)
  | _ => none
def valD : List (PD × PD) → Key → Option PD
  | [], _ => none
  | (a, d) :: r, k => if keyOf a = some k then some d else valD r k
def putD (kvs : List (PD × PD)) (k : Key) (d : PD) : List (PD × PD) :=
  if (valD kvs k).isSome = true then kvs.map fun kv => if keyOf kv.1 = some k then (kv.1, d) else kv else kvs ++ [(keyD k, d)]
theorem keyOf_keyD (k : Key) : keyOf (keyD k) = some k := by cases k <;> rfl
theorem keyD_of {d : PD} {k : Key} (h : keyOf d = some k) : d = keyD k := by
  cases d with
  | int i => cases h; rfl
  | str s => cases h; rfl
  | _ => cases h
theorem key_rp {K : PySem.W.Frag} {F H : Hp} {v : V} {k : Key} (r : Rp K F H v (keyD k)) : v = kV k := by
  cases k with
  | inl i => exact r.int
  | inr s => exact r.str
theorem key_dp {K : PySem.W.Frag} {F : Hp} (k : Key) : Dp K F (kV k) (keyD k) := by
  cases k with
  | inl i => exact .int i
  | inr s => exact .str s
section
variable {K : PySem.W.Frag} {F H : Hp}
theorem KvR.len {es : List (Key × V)} {kvs : List (PD × PD)} (r : KvR K F keyD es kvs) : es.length = kvs.length := by
  induction r with
  | nil => rfl
  | cons _ _ ih => rw [List.length_cons, List.length_cons, ih]
theorem KvR.keys {es : List (Key × V)} {kvs : List (PD × PD)} (r : KvR K F keyD es kvs) : kvs.map (·.1) = es.map fun e => keyD e.1 := by
  induction r with
  | nil => rfl
  | cons _ _ ih => rw [List.map_cons, List.map_cons, ih]
theorem KvR.val {es : List (Key × V)} {kvs : List (PD × PD)} (r : KvR K F keyD es kvs) (k : Key) : (valD kvs k = none ∧ valV es k = none) ∨ ∃ d v, valD kvs k = some d ∧ valV es k = some v ∧ Dp K F v d := by
  induction r with
  | nil => exact .inl ⟨rfl, rfl⟩
  | @cons k' v d es kvs h t ih =>
    by_cases e : k' = k
    · subst e
      exact .inr ⟨d, v, by unfold valD; rw [if_pos (keyOf_keyD k')], valV_pos rfl, h⟩
    · have e2 : ¬ keyOf (keyD k') = some k := by rw [keyOf_keyD]; exact fun q => e (Option.some.inj q)
      unfold valD
      rw [if_neg e2, valV_neg (show ¬ (k', v).1 = k from e)]
      exact ih
theorem KvR.snoc {es : List (Key × V)} {kvs : List (PD × PD)} (r : KvR K F keyD es kvs) (k : Key) {v : V} {d : PD} (h : Dp K F v d) : KvR K F keyD (es ++ [(k, v)]) (kvs ++ [(keyD k, d)]) := by
  induction r with
  | nil => exact .cons h .nil
  | cons a t ih => exact .cons a ih
theorem KvR.repl {es : List (Key × V)} {kvs : List (PD × PD)} (r : KvR K F keyD es kvs) (k : Key) {v : V} {d : PD} (h : Dp K F v d) :
    KvR K F keyD (es.map fun kv => if kv.1 = k then (kv.1, v) else kv) (kvs.map fun kv => if keyOf kv.1 = some k then (kv.1, d) else kv) := by
  induction r with
  | nil => exact .nil
  | @cons k' v' d' es kvs a t ih =>
    rw [List.map_cons, List.map_cons]
    by_cases e : k' = k
    · rw [if_pos (show (k', v').1 = k from e), if_pos (show keyOf (keyD k') = some k by rw [keyOf_keyD, e])]
      exact .cons h ih
    · rw [if_neg (show ¬ (k', v').1 = k from e), if_neg (show ¬ keyOf (keyD k') = some k by rw [keyOf_keyD]; exact fun q => e (Option.some.inj q))]
      exact .cons a ih
theorem KvR.put {es : List (Key × V)} {kvs : List (PD × PD)} (r : KvR K F keyD es kvs) (k : Key) {v : V} {d : PD} (h : Dp K F v d) : KvR K F keyD (putK es k v) (putD kvs k d) := by
  unfold putK putD
  rw [valV_any]
  rcases r.val k with ⟨a, b⟩ | ⟨d', v', a, b, _⟩
  · rw [a, b]; exact r.snoc k h
  · rw [a, b]; exact r.repl k h
end
section
variable {K : PySem.W.Frag} {W : WX} {F0 H0 F H : Hp} {σ : L2.St} {ρ : Rho} {ty tv : TE} {g gk gv : Rho → R PD} {t : TS} {s : Rho → SR}
def dAt (ρ : Rho) (i : Nat) : R (List (PD × PD)) := match ρ[i]? with
  | some (some (.t (.own (.dict kvs)))) => .ok kvs
  | some (some (.l (.dict kvs))) => .ok kvs
  | _ => .bad
theorem dAt_x (ρ : Rho) (i : Nat) : (∃ kvs, dAt ρ i = .ok kvs) ∨ dAt ρ i = .bad := by
  unfold dAt
  split
  · exact .inl ⟨_, rfl⟩
  · exact .inl ⟨_, rfl⟩
  · exact .inr rfl
theorem dAt_ok (S : StR K F0 H0 F H σ ρ) {i : Nat} {kvs : List (PD × PD)} (h : dAt ρ i = .ok kvs) : ∃ p es, σ[i]? = some (some (.ref p)) ∧ Rd H p (.dK es) ∧ KvR K F keyD es kvs := by
  unfold dAt at h
  split at h
  · rename_i e
    cases h
    obtain ⟨p, a, b, c, es, d, r⟩ := S.own i _ e
    exact ⟨p, es, a, .inl d, r⟩
  · rename_i e
    cases h
    obtain ⟨p, a, od, es, d, r⟩ := S.lck i _ e
    exact ⟨p, es, a, .inr ⟨od, S.same _ _ d⟩, r⟩
  · cases h
def getD (kvs : List (PD × PD)) (y : PD) : R PD := match keyOf y with
  | some k => (match valD kvs k with
    | some d => .ok d
    | none => .bad)
  | none => .bad
def eDget (i : Nat) (g : Rho → R PD) : Rho → R PD := fun ρ => (dAt ρ i).bind fun kvs => (g ρ).bind fun y => getD kvs y
theorem td_dget (i : Nat) (h : TDr K W ty g) : TDe K W (tDGet (tVar i) ty) (eDget i g) := fun F0 H0 F H σ ρ Q S q => by
  unfold eDget at q
  rcases dAt_x ρ i with ⟨kvs, e⟩ | e
  · rw [e] at q
    obtain ⟨p, es, hs, rd, r⟩ := dAt_ok S e
    have q : Fin K W σ F H ((g ρ).bind fun y => getD kvs y) (DpQ K Q) := q
    refine ⟨.ref p, hs, h F0 H0 F H σ ρ _ S (q.then fun y F1 H1 e1 k1 v rv => ?_)⟩
    unfold getD at k1
    split at k1
    · rename_i k ek
      rw [keyD_of ek] at rv
      have := key_rp rv
      subst this
      rcases r.val k with ⟨z, _⟩ | ⟨d, u, z1, z2, z3⟩
      · rw [z] at k1; exact k1.elim
      · rw [z1] at k1
        exact ⟨p, u, rfl, .inl ⟨es, k, rdM e1.h rd, rfl, z2.symm⟩, Fin.okk K W σ e1.g k1 _ (z3.mono e1.f)⟩
    · exact k1.elim
  · rw [e] at q; exact q.elim
def hasD (kvs : List (PD × PD)) (y : PD) : R Bool := match keyOf y with
  | some k => .ok (valD kvs k).isSome
  | none => .bad
def edin (i : Nat) (g : Rho → R PD) : Rho → R PD := fun ρ => (g ρ).bind fun y => (dAt ρ i).bind fun kvs => (hasD kvs y).bind fun b => .ok (.bool b)
def ednotin (i : Nat) (g : Rho → R PD) : Rho → R PD := fun ρ => (g ρ).bind fun y => (dAt ρ i).bind fun kvs => (hasD kvs y).bind fun b => .ok (.bool !b)
def oDnew : Rho → R PD := fun _ => .ok (.dict [])
theorem to_dnewK : TDo K W tDNewK oDnew := fun F0 H0 F H σ ρ Q S q p hp =>
  (q : ∀ F' H', Ext F H F' H' → OwQ K H Q (.dict []) F' H') F _ (Ext.own S.same hp) p hp (S.same.free hp) ⟨[], upd_same, .nil⟩
def dOwn (ρ : Rho) (i : Nat) : R (List (PD × PD)) := match ρ[i]? with
  | some (some (.t (.own (.dict kvs)))) => .ok kvs
  | _ => .bad
def putS (ρ : Rho) (i : Nat) (kvs : List (PD × PD)) (y d : PD) : SR := match keyOf y with
  | some k => if kvs.length < sizeLine then .nx (ρ.set i (some (.o (.dict (putD kvs k d))))) else .bad
  | none => .bad
def sDput (i : Nat) (gk gv : Rho → R PD) : Rho → SR := fun ρ => SR.of (gv ρ) fun d => SR.of (dOwn ρ i) fun kvs => SR.of (gk ρ) fun y => putS ρ i kvs y d
theorem ds_dput (i : Nat) (hk : TDr K W ty gk) (hv : TDe K W tv gv) : TDS K W (sDPut (tVar i) ty tv) (sDput i gk gv) := fun F0 H0 F H σ ρ D S q =>
  hv F0 H0 F H σ ρ _ S (q.of S.ext fun d F1 H1 e1 k1 v rv => by
    have S1 := S.go e1
    unfold dOwn at k1
    split at k1
    · rename_i kvs ei
      obtain ⟨p, a, _, _, _⟩ := S1.own i _ ei
      have k1 : FinS K W F0 H0 D (SR.of (gk ρ) fun y => putS ρ i kvs y d) := k1
      refine ⟨.ref p, a, hk F0 H0 F1 H1 σ ρ _ S1 (k1.of S1.ext fun y F2 H2 e2 k2 u ru => ?_)⟩
      have S2 := S1.go e2
      obtain ⟨p2, a2, b2, c2, es, hh, r⟩ := S2.own i _ ei
      rw [a] at a2
      injection a2 with a2; injection a2 with a2; injection a2 with a2; subst a2
      unfold putS at k2
      split at k2
      · rename_i k ek
        split at k2
        · rename_i hl
          rw [keyD_of ek] at ru
          have := key_rp ru
          subst this
          have hl2 : es.length < sizeLine := by rw [r.len]; exact hl
          exact ⟨p, _, rfl, DPut.k hh hl2, k2 _ _ _ (S2.mut ei a ⟨_, upd_same, r.put k (rv.mono e2.f)⟩)⟩
        · exact k2.elim
      · exact k2.elim
    · exact k1.elim)
def iKeysD (i : Nat) : Rho → R (List PD) := fun ρ => match ρ[i]? with
  | some (some (.l (.dict kvs))) => .ok (kvs.map (·.1))
  | _ => .bad
theorem di_keys (i : Nat) : TDi K W (iKeys (tVar i)) (iKeysD i) := fun F0 H0 F H σ ρ Q S q => by
  unfold iKeysD at q
  split at q
  · rename_i kvs e
    obtain ⟨p, a, od, es, d, r⟩ := S.lck i _ e
    refine ⟨.ref p, a, p, od, rfl, .inl ⟨es, S.same _ _ d, q.ok S.same _ fun j F1 H1 e1 e2 _ => ?_⟩⟩
    have f1 : H1 p = some (.frz od (.dK es)) := e2 _ _ (e1 _ _ d)
    rw [r.keys]
    refine ⟨fun x hx => ?_, fun hl => ⟨f1, by simpa using hl⟩⟩
    rw [List.getElem?_map] at hx
    cases ee : es[j]? with
    | none => rw [ee] at hx; cases hx
    | some kv =>
      rw [ee] at hx
      have hx : keyD kv.1 = x := Option.some.inj hx
      subst hx
      refine ⟨⟨f1, (List.getElem?_eq_some_iff.mp ee).1⟩, fun z H2 y => ?_⟩
      obtain ⟨rfl, k, v, hk, rfl⟩ := y
      rw [ee] at hk
      cases hk
      exact ⟨F1, Ext.refl e2, key_dp k⟩
  · exact q.elim
def cutH (F : Hp) (p : Addr) : Hp := fun q => if q = p then none else F q
theorem cut_ne {F : Hp} {p q : Addr} (h : q ≠ p) : cutH F p q = F q := if_neg h
mutual
theorem Dp.cut {p : Addr} {od : Obj} {es : List (Key × V)} (e : F p = some (.frz od (.dK es))) : ∀ {v : V} {d : PyData}, Dp K F v d → Dp K (cutH F p) v d
  | _, _, .non => .non
  | _, _, .bl b => .bl b
  | _, _, .int i => .int i
  | _, _, .str x => .str x
  | _, _, .lst (a := a) s al => by
    have hn : a ≠ p := fun z => by
      subst z
      rcases s with s | ⟨o, s⟩
      · rw [e] at s; cases s
      · rw [e] at s; cases s
    refine .lst ?_ (DpAll.cut e al)
    rcases s with s | ⟨o, s⟩
    · exact .inl ((cut_ne hn).trans s)
    · exact .inr ⟨o, (cut_ne hn).trans s⟩
  | _, _, .tup (a := a) s al => .tup ((cut_ne fun z => by subst z; rw [e] at s; cases s).trans s) (DpAll.cut e al)
  | _, _, .exc (a := a) s r g => .exc ((cut_ne fun z => by subst z; rw [e] at s; cases s).trans s) (r.imp id fun ⟨dd, h, k⟩ => ⟨dd, h, (cut_ne fun z => by subst z; rw [e] at k; cases k).trans k⟩) g
  | _, _, .dct (a := a) s l al => .dct ((cut_ne fun z => by subst z; rw [e] at s; cases s).trans s) l (DpAll.cut e al)
theorem DpAll.cut {p : Addr} {od : Obj} {es : List (Key × V)} (e : F p = some (.frz od (.dK es))) : ∀ {vs : List V} {ds : List PyData}, DpAll K F vs ds → DpAll K (cutH F p) vs ds
  | _, _, .nil => .nil
  | _, _, .cons h t => .cons (Dp.cut e h) (DpAll.cut e t)
end
theorem KvR.cut {p : Addr} {od : Obj} {es0 : List (Key × V)} (e : F p = some (.frz od (.dK es0))) : ∀ {es : List (Key × V)} {kvs : List (PD × PD)}, KvR K F keyD es kvs → KvR K (cutH F p) keyD es kvs
  | _, _, .nil => .nil
  | _, _, .cons h t => .cons (h.cut e) (KvR.cut e t)
theorem OwnAt.cut {p p' : Addr} {od : Obj} {es0 : List (Key × V)} {u : HO} (e : F p = Option.some (HO.frz od (.dK es0))) (hn : p' ≠ p) {d : PD} (h : OwnAt K F H p' d) : OwnAt K (cutH F p) (upd H p u) p' d := by
  cases d with
  | list ds => obtain ⟨vs, a, b⟩ := h; exact ⟨vs, by rw [upd_ne hn]; exact a, b.cut e⟩
  | dict kvs => obtain ⟨es, a, b⟩ := h; exact ⟨es, by rw [upd_ne hn]; exact a, b.cut e⟩
  | _ => exact h.elim
end
end DL
namespace DL
open PySem PySem.Spec PyProof.Rows L2
def fsOf : List Str → List V → List (Str × V) → List (Str × V)
  | f :: fs, y :: ys, acc => fsOf fs ys ((f, y) :: acc)
  | _, _, acc => acc
def spI (C : Addr) (ns : List Str) : Sp := fun vs H Q E => ∃ (a : Addr) (us : List V), vs = V.ref a :: us ∧ us.length = ns.length ∧ H a = some (exo a C none) ∧
  ∀ dx, H dx = none → dx ≠ a → Q .non (upd (upd H dx (exd dx (fsOf ns us []))) a (exo a C (some dx)))
def tInit (K : PySem.W.Frag) : List (Str × Nat) → TS
  | [] => tNext
  | [(f, i)] => tOst K f (tVar 0) (tVar i)
  | (f, i) :: p :: r => tSeq (tOst K f (tVar 0) (tVar i)) (tInit K (p :: r))
theorem upd_upd {H : Hp} {a : Addr} {o o' : HO} : upd (upd H a o) a o' = upd H a o' := by
  funext b
  by_cases h : b = a
  · subst h; rw [upd_same, upd_same]
  · rw [upd_ne h, upd_ne h, upd_ne h]
theorem upd_comm {H : Hp} {a b : Addr} {o o' : HO} (h : a ≠ b) : upd (upd H a o) b o' = upd (upd H b o') a o := by
  funext c
  by_cases h1 : c = a
  · subst h1; rw [upd_same, upd_ne h, upd_same]
  · by_cases h2 : c = b
    · subst h2; rw [upd_same, upd_ne h1, upd_same]
    · rw [upd_ne h2, upd_ne h1, upd_ne h1, upd_ne h2]
section
variable {K : PySem.W.Frag} {C a dx : Addr} {D : Ends} {σ : L2.St}
theorem init_old (T : OexC K C) (e0 : σ[0]? = some (some (.ref a))) (hne : dx ≠ a) : ∀ (r : List (Str × Nat)) (p : Str × Nat) (us : List V) (y : V) (H : Hp) (fs : List (Str × V)),
    (∀ q ∈ p :: r, PySem.W.findIn K (.ref C) q.1 = some none) → us.length = r.length → (∀ (j : Nat) (q : Str × Nat) (u : V), (p :: r)[j]? = some q → (y :: us)[j]? = some u → σ[q.2]? = some (some u)) →
    H a = some (exo a C (some dx)) → H dx = some (exd dx fs) → fs.length + r.length ≤ 800 → D.nx σ (upd H dx (exd dx (fsOf ((p :: r).map (·.1)) (y :: us) fs))) → tInit K (p :: r) D σ H
  | [], p, us, y, H, fs, hno, hl, hs, ea, ed, hf, q => by
    have : us = [] := List.eq_nil_of_length_eq_zero hl
    subst this
    refine ⟨y, hs 0 p y rfl rfl, .ref a, e0, a, C, rfl, T, hno p List.mem_cons_self, .inr ⟨dx, fs, ea, ed, by simp at hf; omega, q⟩⟩
  | p2 :: r, p, us, y, H, fs, hno, hl, hs, ea, ed, hf, q => by
    cases us with
    | nil => cases hl
    | cons u us =>
      rw [List.length_cons] at hf
      refine ⟨y, hs 0 p y rfl rfl, .ref a, e0, a, C, rfl, T, hno p List.mem_cons_self, .inr ⟨dx, fs, ea, ed, by omega, ?_⟩⟩
      refine init_old T e0 hne r p2 us u (upd H dx (exd dx ((p.1, y) :: fs))) ((p.1, y) :: fs) (fun z hz => hno z (List.mem_cons_of_mem _ hz)) (by simpa using hl)
        (fun j z v h1 h2 => hs (j + 1) z v (by simpa using h1) (by simpa using h2)) (by rw [upd_ne hne.symm]; exact ea) upd_same (by rw [List.length_cons]; omega) ?_
      rw [upd_upd]
      exact q
theorem init_ok (T : OexC K C) {H : Hp} {Q : VK} (r : List (Str × Nat)) (p : Str × Nat) (us : List V) (y : V) (hno : ∀ q ∈ p :: r, PySem.W.findIn K (.ref C) q.1 = some none) (hl : us.length = r.length) (hr : r.length ≤ 100)
    (e0 : σ[0]? = some (some (.ref a))) (hs : ∀ (j : Nat) (q : Str × Nat) (u : V), (p :: r)[j]? = some q → (y :: us)[j]? = some u → σ[q.2]? = some (some u)) (ea : H a = some (exo a C none))
    (q : ∀ dx, H dx = none → dx ≠ a → Q .non (upd (upd H dx (exd dx (fsOf ((p :: r).map (·.1)) (y :: us) []))) a (exo a C (some dx)))) :
    tInit K (p :: r) { nx := fun _ H' => Q .non H', rt := Q } σ H := by
  have one : ∀ dx, H dx = none → dx ≠ a → upd (upd (upd (upd H dx (exd dx [(p.1, y)])) a (exo a C (some dx))) dx (exd dx (fsOf ((p :: r).map (·.1)) (y :: us) []))) a (exo a C (some dx)) =
      upd (upd H dx (exd dx (fsOf ((p :: r).map (·.1)) (y :: us) []))) a (exo a C (some dx)) := fun dx _ hne => by
    rw [upd_comm (a := a) (b := dx) hne.symm, upd_upd, upd_upd]
  cases r with
  | nil =>
    have : us = [] := List.eq_nil_of_length_eq_zero hl
    subst this
    exact ⟨y, hs 0 p y rfl rfl, .ref a, e0, a, C, rfl, T, hno p List.mem_cons_self, .inl ⟨ea, fun dx h1 h2 => q dx h1 h2⟩⟩
  | cons p2 r =>
    cases us with
    | nil => cases hl
    | cons u us =>
      refine ⟨y, hs 0 p y rfl rfl, .ref a, e0, a, C, rfl, T, hno p List.mem_cons_self, .inl ⟨ea, fun dx h1 h2 => ?_⟩⟩
      refine init_old (dx := dx) T e0 h2 r p2 us u _ [(p.1, y)] (fun z hz => hno z (List.mem_cons_of_mem _ hz)) (by simpa using hl)
        (fun j z v h1 h2 => hs (j + 1) z v (by simpa using h1) (by simpa using h2)) upd_same (by rw [upd_ne h2, upd_same]) (by simp at hr ⊢; omega) ?_
      have := q dx h1 h2
      rw [← one dx h1 h2] at this
      have e3 : upd (upd (upd (upd H dx (exd dx [(p.1, y)])) a (exo a C (some dx))) dx (exd dx (fsOf ((p :: p2 :: r).map (·.1)) (y :: u :: us) []))) a (exo a C (some dx)) =
          upd (upd (upd H dx (exd dx [(p.1, y)])) a (exo a C (some dx))) dx (exd dx (fsOf ((p2 :: r).map (·.1)) (u :: us) [(p.1, y)])) := by
        rw [upd_comm (a := dx) (b := a) h2, upd_upd]
        rfl
      rw [e3] at this
      exact this
end
section
variable {K : PySem.W.Frag}
def dv1 : PD → Option V
  | .none => some .non
  | .bool b => some (.bl b)
  | .int i => some (.int i)
  | .str x => some (.str x)
  | _ => none
def dvs : List PD → Option (List V)
  | [] => some []
  | d :: ds => match dv1 d, dvs ds with
    | some v, some vs => some (v :: vs)
    | _, _ => none
theorem dv1_ok {F : Hp} {v u : V} {d : PD} (h : dv1 d = some u) (r : Dp K F v d) : v = u := by
  cases r with
  | non => cases h; rfl
  | bl b => cases h; rfl
  | int i => cases h; rfl
  | str x => cases h; rfl
  | lst _ _ => cases h
  | tup _ _ => cases h
  | exc _ _ _ => cases h
  | dct _ _ _ => cases h
theorem dvs_ok {F : Hp} : ∀ {vs us : List V} {ds : List PD}, dvs ds = some us → DpAll K F vs ds → vs = us
  | _, us, [], h, r => by cases r; cases h; rfl
  | _, us, d :: ds, h, r => by
    cases r with
    | cons a b =>
      unfold dvs at h
      split at h
      · rename_i v vs e1 e2
        cases h
        rw [dv1_ok e1 a, dvs_ok e2 b]
      · cases h
def raiseS (x : Str) (ns : List Str) (ds : List PD) : SR := match dvs ds with
  | some us => if us.length = ns.length ∧ us.length ≤ 1000 then .exc ⟨x, fsOf ns us []⟩ else .bad
  | none => .bad
def sRaise (x : Str) (ns : List Str) (gr : Rho → R (List PD)) : Rho → SR := fun ρ => SR.of (gr ρ) (raiseS x ns)
theorem ds_raise {W : WX} {ta : TA} {gr : Rho → R (List PD)} (x : Str) (ns : List Str) (h : TDa K W ta gr) :
    TDS K W (fun _ σ H => tMkO (He.ga K x) (spI (He.ga K x) ns) [] ta σ H fun cls d H' => W cls d σ H') (sRaise x ns gr) := fun F0 H0 F H σ ρ D S q =>
  h F0 H0 F H σ ρ _ S (q.of S.ext fun ds F1 H1 e1 k1 vs rs => by
    have S1 := S.go e1
    unfold raiseS at k1
    split at k1
    · rename_i us eu
      split at k1
      · rename_i hl
        have := dvs_ok eu rs
        subst this
        refine ⟨hl.2, fun a ha => ⟨a, vs, by rw [List.append_nil], hl.1, upd_same, fun dx h1 h2 => ?_⟩⟩
        have hd : H1 dx = none := by rw [upd_ne h2] at h1; exact h1
        refine ⟨rfl, dx, fsOf ns vs [], upd_same, by rw [upd_ne h2, upd_same], hd, ?_⟩
        have e2 : upd (del (upd (upd (upd H1 a (exo a (He.ga K x) none)) dx (exd dx (fsOf ns vs []))) a (exo a (He.ga K x) (some dx))) a) dx (.xd (fsOf ns vs [])) = upd H1 dx (.xd (fsOf ns vs [])) := by
          funext b
          by_cases hb : b = dx
          · subst hb; rw [upd_same, upd_same]
          · rw [upd_ne hb, upd_ne hb]
            by_cases hb2 : b = a
            · subst hb2; rw [del_same, ha]
            · rw [del_ne hb2, upd_ne hb2, upd_ne hb, upd_ne hb2]
        rw [e2]
        exact k1 _ _ σ F1 _ (S1.ext.trans (Ext.own S1.same hd)) ⟨rfl, .inr ⟨dx, rfl, upd_same⟩⟩
      · exact k1.elim
    · exact k1.elim)
theorem initFn {P : Program} {w : World} {mg : Str → Option Value} {base : Heap} {x qual : Str} {params : Arguments} {body : List Stmt} {scope : Scope} {f C : Addr} {fd : FuncData} {N ps : List Str} {k : Nat} {p : Str × Nat} {r : List (Str × Nat)}
    (F : FunD K x qual params body scope [] [] f fd) (S : FnScope N ps scope) (T : OexC K C) (hi : ∀ (j : Nat) (q : Str × Nat), (p :: r)[j]? = some q → q.2 = j + 1) (hps : ps.length = r.length + 2) (hr : r.length ≤ 100)
    (hno : ∀ q ∈ p :: r, PySem.W.findIn K (.ref C) q.1 = some none)
    (hb : ∀ (cdv : Value) (A : Around) (outer : List Env) (sh : Shared) (H : Hp) (E : XK), Room k (A.deeper (envOfC qual scope sh.heap.objs.size f cdv)) →
      PSs (cxOf (L2.CX P w) P w K mg base N qual scope f cdv A outer sh H E) body (tInit K (p :: r))) : FnOk P w K mg base (L2.CX P w) (k + 1) f fd ps (spI C ((p :: r).map (·.1))) := by
  refine F.ok S (fun vs H Q E h => ?_) (fun cdv A outer sh H vs Q E hr2 h => ⟨_, hb cdv A outer sh H E hr2, ?_⟩)
  · obtain ⟨a, us, rfl, hl, _, _⟩ := h
    rw [List.length_cons, hl, List.length_map, List.length_cons, hps]
  · obtain ⟨a, us, rfl, hl, ea, q⟩ := h
    cases us with
    | nil => cases hl
    | cons y us =>
      have hl2 : us.length = r.length := by simpa using hl
      refine init_ok T r p us y hno hl2 hr ?_ (fun j z u h1 h2 => ?_) ea q
      · unfold L2.start
        rfl
      · rw [hi j z h1]
        unfold L2.start
        have hj : j < (y :: us).length := (List.getElem?_eq_some_iff.mp h2).1
        rw [List.getElem?_append_left (by simpa using hj), List.getElem?_map]
        show ((V.ref a :: y :: us)[j + 1]?).map some = _
        rw [List.getElem?_cons_succ, h2]
        rfl
end
end DL
namespace DL
open PySem PySem.Spec PyProof.Rows L2
section
variable {K : PySem.W.Frag}
def FinB (K : PySem.W.Frag) (W : WX) (σ : L2.St) (F0 H0 F H : Hp) (D : Ends) : SR → Prop
  | .exc c => ∀ cls d F' H', Ext F H F' H' → ExR K c cls d H' → W cls d σ H'
  | s => FinS K W F0 H0 D s
theorem FinB.mono {W : WX} {σ : L2.St} {F0 H0 F H F1 H1 : Hp} {D : Ends} {s : SR} (e : Ext F H F1 H1) (h : FinB K W σ F0 H0 F H D s) : FinB K W σ F0 H0 F1 H1 D s := by
  cases s with
  | exc c => exact fun cls d F' H' x r => h cls d F' H' (e.trans x) r
  | nx ρ => exact h
  | rt s => exact h
  | bk ρ => exact h
  | ct ρ => exact h
  | bad => exact h
theorem FinB.of {α : Type} {W : WX} {σ : L2.St} {F0 H0 F H : Hp} {D : Ends} {r : R α} {k : α → SR} {P : α → Hp → Hp → Prop} (h : FinB K W σ F0 H0 F H D (SR.of r k)) (f : ∀ x F1 H1, Ext F H F1 H1 → FinB K W σ F0 H0 F1 H1 D (k x) → P x F1 H1) : Fin K W σ F H r P := by
  cases r with
  | ok x => exact fun F1 H1 e => f x F1 H1 e (FinB.mono e h)
  | exc c => exact h
  | bad => exact h
end
section
variable {K : PySem.W.Frag}
end
section
variable {K : PySem.W.Frag}
theorem oexB_ok {C : Addr} (h : oexB K C = true) : OexC K C := by
  unfold oexB at h
  rw [Bool.and_eq_true, Bool.and_eq_true, Bool.and_eq_true, Bool.and_eq_true] at h
  obtain ⟨h1, h2, h3, h4, h5⟩ := h
  refine ⟨?_, of_decide_eq_true h2, of_decide_eq_true h3, of_decide_eq_true h4, h5⟩
  split at h1
  · rename_i dd cd sl ho
    split at h1
    · rename_i C' bm k0 k1 k2 k3 n k5 hm hs
      rw [Bool.and_eq_true, Bool.and_eq_true, Bool.and_eq_true, Bool.and_eq_true] at h1
      obtain ⟨q1, q2, q3, q4, q5⟩ := h1
      obtain rfl := eq_of_beq q1
      obtain rfl := eq_of_beq q2
      obtain ⟨nm, bs, mro, ns, qn, hdct, sn, sub, ab, col, del⟩ := cd
      dsimp only at hm q3 q4
      subst hm q4
      have hdel : del = false := by simpa using q3
      subst hdel
      obtain ⟨l⟩ := sl
      dsimp only at hs
      subst hs
      exact ⟨nm, qn, ns, bs, bm, sn, sub, ab, col, dd, k0, k1, k2, k3, k5, ho, q5⟩
    · cases h1
  · cases h1
end
section
structure OCls (K : PySem.W.Frag) (mg : Str → Option Value) (x : Str) (ns : List Str) : Prop where
  o : OexC K (He.ga K x)
  g : mg x = some (.ref (He.ga K x))
  i : PySem.W.findIn K (.ref (He.ga K x)) "__init__" = some (some (.ref (He.ma K (He.ga K x) "__init__")))
  t : PySem.W.typeIn K (.ref (He.ma K (He.ga K x) "__init__")) = some (.type "function")
  n : ∀ f ∈ ns, PySem.W.findIn K (.ref (He.ga K x)) f = some none
  xf : XfC K (He.ga K x)
  ex : ExcC K (He.ga K x)
theorem oclsB_ok {K : PySem.W.Frag} {mg : Str → Option Value} {x : Str} {ns : List Str} (h : oclsB K x ns = true) (g : mg x = some (.ref (He.ga K x))) : OCls K mg x ns := by
  unfold oclsB at h
  rw [Bool.and_eq_true, Bool.and_eq_true, Bool.and_eq_true, Bool.and_eq_true, Bool.and_eq_true] at h
  obtain ⟨h1, h2, h3, h4, h5, h6⟩ := h
  have X := xfB_ok h5
  unfold excCB at h6
  rw [Bool.and_eq_true, Bool.and_eq_true, Bool.and_eq_true] at h6
  obtain ⟨e1, e2, e3, e4⟩ := h6
  exact ⟨oexB_ok h1, g, of_decide_eq_true h2, of_decide_eq_true h3, fun f hf => of_decide_eq_true (List.all_eq_true.mp h4 f hf), X, ⟨X.ga, X.gg, X.exC, X.hdC, of_decide_eq_true e1, of_decide_eq_true e2, of_decide_eq_true e3, of_decide_eq_true e4⟩⟩
end
section
theorem pmk_ocls {X : Cx} {W : WX} {x : Str} {ns ps : List Str} {k : Nat} {fd : FuncData} {e : Expr} {es : List Expr} {ta : TA} {p pos : Pos} (tk : Takes X W) (O : OCls X.K X.mg x ns)
    (F1 : FnOk X.prog X.w X.K X.mg X.base (L2.CX X.prog X.w) k (He.ma X.K (He.ga X.K x) "__init__") fd ps (spI (He.ga X.K x) ns)) (hr : Room (k + 1) X.A) (hb : Binds X.K fd ps []) (hg : Gl X x) (ha : PA X (e :: es) ta)
    (hdb : (x == ("__debug__" : Str)) = false := by decide) (he : starEach (e :: es) X.env = (false, eval e X.env) :: starEach es X.env := by rfl) (hpl : (backTo pos (starEach es X.env)).any (·.1) = false := by rfl) :
    PMk X (.Call (.Name x p) (e :: es) [] pos) (tMkO (He.ga X.K x) (spI (He.ga X.K x) ns) [] ta) :=
  pmk_oex O.o O.i O.t F1 hr hb .nil (passes_call tk fun _ _ _ _ h => h.elim) hg O.g ha hdb he hpl
def KeptI (P : Program) (w : World) (K : PySem.W.Frag) (mg : Str → Option Value) (base : Heap) (k : Nat) (x : Str) (ns : List Str) : Prop :=
  ∃ (fd : FuncData) (ps : List Str), OCls K mg x ns ∧ Binds K fd ps [] ∧ FnOk P w K mg base (L2.CX P w) k (He.ma K (He.ga K x) "__init__") fd ps (spI (He.ga K x) ns)
theorem kept_cls {P : Program} {w : World} {K : PySem.W.Frag} {mg : Str → Option Value} {base : Heap} {x qual : Str} {params : Arguments} {body : List Stmt} {scope : Scope} {N ps ns : List Str} {k : Nat} {p : Str × Nat} {r : List (Str × Nat)}
    (F : ∃ fd, FunD K "__init__" qual params body scope [] [] (He.ma K (He.ga K x) "__init__") fd) (O : OCls K mg x ns) (S : FnScope N ps scope) (hn : ns = (p :: r).map (·.1)) (hi : ∀ (j : Nat) (q : Str × Nat), (p :: r)[j]? = some q → q.2 = j + 1)
    (hps : ps.length = r.length + 2) (hr : r.length ≤ 100)
    (hB : ∀ (kV doc pm : Value) (an : Option Addr) (cdv ct : Value) (us : List Value), us.length = ps.length → bindArgs (PySem.W.fnOf "__init__" qual params body scope .none kV doc pm an cdv ct) ⟨us, []⟩ = pure (ps.zip us))
    (hb : ∀ (f : Addr) (cdv : Value) (A : Around) (outer : List Env) (sh : Shared) (H : Hp) (E : XK), Room k (A.deeper (envOfC qual scope sh.heap.objs.size f cdv)) →
      PSs (cxOf (L2.CX P w) P w K mg base N qual scope f cdv A outer sh H E) body (tInit K (p :: r))) : KeptI P w K mg base (k + 1) x ns := by
  obtain ⟨fd, F⟩ := F
  refine ⟨fd, ps, O, F.bindsN hB, ?_⟩
  subst hn
  exact initFn F S O.o hi hps hr (fun q hq => O.n q.1 (List.mem_map_of_mem hq)) (fun cdv A outer sh H E h => hb _ cdv A outer sh H E h)
end
section
end
section
variable {K : PySem.W.Frag}
end
end DL
namespace DL
open PySem PySem.Spec PyProof.Rows L2
section
variable {K : PySem.W.Frag} {W : WX}
def MvQ (K : PySem.W.Frag) (H : Hp) (φ : Nat → List Addr) (vs : List Nat) (Q : VK) : Tv → Hp → Hp → Prop := fun x F' H' => ∀ v fp, TvAt K F' H' fp v x → fp.Nodup → (∀ p ∈ fp, F' p = none ∧ (H p = none ∨ ∃ i ∈ vs, p ∈ φ i)) → Q v H'
def TDm (K : PySem.W.Frag) (W : WX) (vs : List Nat) (t : TE) (g : Rho → R Tv) : Prop := ∀ (F0 H0 F H : Hp) (σ : L2.St) (ρ : Rho) (φ : Nat → List Addr) (Q : VK), StF K F0 H0 F H σ ρ φ → Fin K W σ F H (g ρ) (MvQ K H φ vs Q) → t σ H Q
def TDma (K : PySem.W.Frag) (W : WX) (vs : List Nat) (t : TA) (g : Rho → R (List Tv)) : Prop := ∀ (F0 H0 F H : Hp) (σ : L2.St) (ρ : Rho) (φ : Nat → List Addr) (Q : List V → Hp → Prop), StF K F0 H0 F H σ ρ φ →
  Fin K W σ F H (g ρ) (fun xs F' H' => ∀ us fp, TvAll K F' H' fp us xs → fp.Nodup → (∀ p ∈ fp, F' p = none ∧ (H p = none ∨ ∃ i ∈ vs, p ∈ φ i)) → Q us H') → t σ H Q
variable {t ta tb tc : TE} {g ga gb gc : Rho → R PD} {tt : TT} {gm : Rho → R Tv} {tr : TA} {gr : Rho → R (List Tv)} {vs ws : List Nat}
def mFr (g : Rho → R PD) : Rho → R Tv := fun ρ => (g ρ).bind fun d => .ok (.fr d)
def mOwn (g : Rho → R PD) : Rho → R Tv := fun ρ => (g ρ).bind fun d => .ok (.own d)
def mVar (i : Nat) : Rho → R Tv := fun ρ => match ρ[i]? with
  | some (some (.d x)) => .ok (.fr x)
  | some (some (.t x)) => .ok x
  | _ => .bad
theorem tm_fr (h : TDe K W t g) : TDm K W [] t (mFr g) := fun F0 H0 F H σ ρ φ Q S q =>
  h F0 H0 F H σ ρ Q ⟨φ, S⟩ (q.then fun d F1 H1 e k v rv => (Fin.okk (x := Tv.fr d) K W σ e.g k) v [] (.fr rv) List.nodup_nil fun p hp => by cases hp)
theorem tm_own (h : TDo K W t g) : TDm K W [] t (mOwn g) := fun F0 H0 F H σ ρ φ Q S q =>
  h F0 H0 F H σ ρ Q ⟨φ, S⟩ (q.then fun d F1 H1 e k p hp hf ho => (Fin.okk (x := Tv.own d) K W σ e.g k) _ [p] (.own ho) (by simp) fun r hr => by rw [List.mem_singleton.mp hr]; exact ⟨hf, .inl hp⟩)
theorem tm_var (i : Nat) : TDm K W [i] (tVar i) (mVar i) := fun F0 H0 F H σ ρ φ Q S q => by
  unfold mVar at q
  split at q
  · rename_i x e
    obtain ⟨v, a, b⟩ := S.dat i x e
    exact ⟨v, a, (q.ok S.same) v [] (.fr b) List.nodup_nil fun p hp => by cases hp⟩
  · rename_i x e
    obtain ⟨v, a, b⟩ := S.tre i x e
    exact ⟨v, a, (q.ok S.same) v (φ i) b (S.nod i) fun p hp => ⟨(S.fre i p hp).2.1, .inr ⟨i, by simp, hp⟩⟩⟩
  · exact q.elim
def maNil : Rho → R (List Tv) := fun _ => .ok []
def maCons (gm : Rho → R Tv) (gr : Rho → R (List Tv)) : Rho → R (List Tv) := fun ρ => (gm ρ).bind fun a => (gr ρ).bind fun l => .ok (a :: l)
theorem tma_nil : TDma K W [] tNil maNil := fun F0 H0 F H σ ρ φ Q S q => (q.ok S.same) [] [] .nil List.nodup_nil fun p hp => by cases hp
theorem tma_cons (ha : TDm K W vs ta gm) (hr : TDma K W ws tr gr) (dj : ∀ i ∈ vs, i ∉ ws := by decide) : TDma K W (vs ++ ws) (tCons ta tr) (maCons gm gr) := fun F0 H0 F H σ ρ φ Q S q =>
  ha F0 H0 F H σ ρ φ _ S (q.then fun a F1 H1 e1 k1 v fp tv nd hp => hr F0 H0 F1 H1 σ ρ φ _ (S.go e1) (k1.then fun l F2 H2 e2 k2 us fq tl nd2 hq => by
    have S1 := S.go e1
    refine (Fin.okk (x := a :: l) K W σ e2.g k2) _ (fp ++ fq) (.cons (tv.keep e2.f (KeepOn.same e2.h)) tl) ?_ ?_
    · refine List.nodup_append.mpr ⟨nd, nd2, fun p h1 r h2 z => ?_⟩
      subst z
      obtain ⟨o, ho, nt⟩ := tv.nt p h1
      rcases (hq p h2).2 with y | ⟨j, hj, y⟩
      · rw [ho] at y; cases y
      · rcases (hp p h1).2 with x | ⟨i, hi, x⟩
        · obtain ⟨_, _, o', y2, _⟩ := S.fre j p y
          rw [x] at y2; cases y2
        · have := S.dis i j p x y
          subst this
          exact dj i hi hj
    · intro p h
      rcases List.mem_append.mp h with h | h
      · obtain ⟨o, ho, nt⟩ := tv.nt p h
        exact ⟨e2.keep (hp p h).1 ho nt, (hp p h).2.imp id fun ⟨i, h1, h2⟩ => ⟨i, List.mem_append_left _ h1, h2⟩⟩
      · exact ⟨(hq p h).1, (hq p h).2.imp (fun z => e1.h.free z) fun ⟨i, h1, h2⟩ => ⟨i, List.mem_append_right _ h1, h2⟩⟩))
def mTup (gr : Rho → R (List Tv)) : Rho → R Tv := fun ρ => (gr ρ).bind fun l => if l.length ≤ sizeLine then .ok (.tup l) else .bad
def mLst (gr : Rho → R (List Tv)) : Rho → R Tv := fun ρ => (gr ρ).bind fun l => if l.length ≤ sizeLine then .ok (.lst l) else .bad
theorem tm_tup (hr : TDma K W vs tr gr) : TDm K W vs (tTup tr) (mTup gr) := fun F0 H0 F H σ ρ φ Q S q =>
  hr F0 H0 F H σ ρ φ _ S (q.then fun l F1 H1 e1 k1 us fp tl nd hp => by
    by_cases hl : l.length ≤ sizeLine
    · rw [if_pos hl] at k1
      refine ⟨by rw [tl.length]; exact hl, fun p np => ?_⟩
      have e2 := Ext.own (o := .tup us) e1.g np
      exact k1 _ _ e2 _ fp (.tup upd_same (tl.keep e2.f (KeepOn.same e2.h))) nd hp
    · rw [if_neg hl] at k1
      exact k1.elim)
theorem tm_lst (hr : TDma K W vs tr gr) : TDm K W vs (tLst tr) (mLst gr) := fun F0 H0 F H σ ρ φ Q S q =>
  hr F0 H0 F H σ ρ φ _ S (q.then fun l F1 H1 e1 k1 us fp tl nd hp => by
    by_cases hl : l.length ≤ sizeLine
    · rw [if_pos hl] at k1
      refine ⟨by rw [tl.length]; exact hl, fun p np => ?_⟩
      have e2 := Ext.own (o := .lst us) e1.g np
      refine k1 _ _ e2 _ (p :: fp) (.lst upd_same (tl.keep e2.f (KeepOn.same e2.h))) (List.nodup_cons.mpr ⟨fun z => ?_, nd⟩) fun r hr => ?_
      · obtain ⟨o, ho, _⟩ := tl.nt p z
        rw [np] at ho; cases ho
      · rcases List.mem_cons.mp hr with z | z
        · subst z; exact ⟨e1.g.free np, .inl (e1.h.free np)⟩
        · exact hp r z
    · rw [if_neg hl] at k1
      exact k1.elim)
def FR.toM : FR → R Tv
  | .rt (.d x) => .ok (.fr x)
  | .rt (.t x) => .ok x
  | .exc c => .exc c
  | _ => .bad
variable {tq : TA} {gq : Rho → R (List PD)} {n : Nat} {f : List PD → FR}
def mCall (n : Nat) (f : List PD → FR) (gq : Rho → R (List PD)) : Rho → R Tv := fun ρ => (gq ρ).bind fun ds => if ds.length = n then (f ds).toM else .bad
theorem tm_call (h : TDa K W tq gq) : TDm K W [] (tCallS (spD K n f) (WE W) tq) (mCall n f gq) := fun F0 H0 F H σ ρ φ Q S q =>
  h F0 H0 F H σ ρ _ ⟨φ, S⟩ (q.then fun ds F1 H1 e1 k1 us rs => by
    by_cases hn : ds.length = n
    · rw [if_pos hn] at k1
      refine ⟨by rw [rs.length]; exact hn, F1, ds, e1.g, rs, ?_⟩
      cases e : f ds with
      | rt s =>
        rw [e] at k1
        cases s with
        | d x => exact fun v F' H' ex r => (k1 F' H' ex) v [] (.fr r) List.nodup_nil fun p hp => by cases hp
        | t x => exact fun v fp F' H' ex tv nd hp => (k1 F' H' ex) v fp tv nd fun p h => ⟨(hp p h).2, .inl (e1.h.free (hp p h).1)⟩
        | l x => exact k1.elim
        | b x => exact k1.elim
      | exc c => rw [e] at k1; exact fun cls d F' H' ex r => k1 cls d F' H' ex r
      | bad => rw [e] at k1; exact k1.elim
    · rw [if_neg hn] at k1
      exact k1.elim)
variable {te : TE}
def sRetM (gm : Rho → R Tv) : Rho → SR := fun ρ => SR.of (gm ρ) fun x => .rt (.t x)
theorem ds_retM (h : TDm K W vs te gm) : TDS K W (tRet te) (sRetM gm) := fun F0 H0 F H σ ρ D S q => by
  obtain ⟨φ, S⟩ := S
  refine h F0 H0 F H σ ρ φ _ S (q.of S.ext fun x F1 H1 e k v fp tv nd hp => k v fp F1 H1 (S.ext.trans e) tv nd fun p h => ⟨?_, (hp p h).1⟩)
  rcases (hp p h).2 with z | ⟨i, _, z⟩
  · exact S.ext.h.free z
  · exact (S.fre i p z).1
def killD (ρ : Rho) : List Nat → Rho
  | [] => ρ
  | i :: is => killD (ρ.set i none) is
def phis (φ : Nat → List Addr) (is : List Nat) : Nat → List Addr := fun j => if j ∈ is then [] else φ j
theorem StF.drop {F0 H0 F H : Hp} {σ : L2.St} {φ : Nat → List Addr} : ∀ {is : List Nat} {ρ : Rho}, StF K F0 H0 F H σ ρ φ → StF K F0 H0 F H σ (killD ρ is) (phis φ is) := by
  have kill1 : ∀ {ρ : Rho} {ψ : Nat → List Addr} (i : Nat), StF K F0 H0 F H σ ρ ψ → StF K F0 H0 F H σ (ρ.set i none) (phi ψ i []) := by
    intro ρ ψ i S
    have ej : ∀ {j p}, p ∈ phi ψ i [] j → j ≠ i ∧ p ∈ ψ j := fun {j p} h => by
      by_cases c : j = i
      · subst c; rw [phi_same] at h; cases h
      · rw [phi_ne c] at h; exact ⟨c, h⟩
    refine ⟨S.ext, by simpa using S.len, fun j y e => ?_, fun j y e => ?_, fun j p hp => S.fre j p (ej hp).2, fun j => ?_, fun j k p hj hk => S.dis j k p (ej hj).2 (ej hk).2, fun j y e => ?_, fun j y e => ?_⟩
    · rcases get_set e with ⟨_, _, q⟩ | ⟨_, q⟩
      · cases q
      · exact S.dat j y q
    · rcases get_set e with ⟨_, _, q⟩ | ⟨hn, q⟩
      · cases q
      · rw [phi_ne (Ne.symm hn)]; exact S.tre j y q
    · by_cases c : j = i
      · subst c; rw [phi_same]; exact List.nodup_nil
      · rw [phi_ne c]; exact S.nod j
    · rcases get_set e with ⟨_, _, q⟩ | ⟨_, q⟩
      · cases q
      · exact S.lck j y q
    · rcases get_set e with ⟨_, _, q⟩ | ⟨_, q⟩
      · cases q
      · exact S.bor j y q
  have all : ∀ {is : List Nat} {ρ : Rho} {ψ : Nat → List Addr}, StF K F0 H0 F H σ ρ ψ → StF K F0 H0 F H σ (killD ρ is) (phis ψ is) := by
    intro is
    induction is with
    | nil =>
      intro ρ ψ S
      have : phis ψ [] = ψ := funext fun j => if_neg (by simp)
      rw [this]; exact S
    | cons i is ih =>
      intro ρ ψ S
      have : phis ψ (i :: is) = phis (phi ψ i []) is := funext fun j => by
        unfold phis phi
        by_cases c : j = i
        · subst c; simp
        · by_cases c2 : j ∈ is <;> simp [c, c2]
      rw [this]
      exact ih (kill1 i S)
  intro is ρ S
  exact all S
theorem phis_mem {φ : Nat → List Addr} {is : List Nat} {j : Nat} {p : Addr} (h : p ∈ phis φ is j) : j ∉ is ∧ p ∈ φ j := by
  unfold phis at h
  split at h
  · cases h
  · rename_i c; exact ⟨c, h⟩
def slOf : Tv → Sl
  | .fr d => .d d
  | x => .t x
theorem StF.putT {F0 H0 F H : Hp} {σ : L2.St} {ρ : Rho} {φ : Nat → List Addr} (S : StF K F0 H0 F H σ ρ φ) {i : Nat} {v : V} {x : Tv} {fp : List Addr} (tv : TvAt K F H fp v x) (nd : fp.Nodup)
    (hp : ∀ p ∈ fp, H0 p = none ∧ F p = none) (hx : ∀ (j : Nat) (p : Addr), j ≠ i → p ∈ φ j → p ∉ fp) : StF K F0 H0 F H (σ.set i (some v)) (ρ.set i (some (slOf x))) (phi φ i fp) := by
  refine S.put (fun y e => ?_) (fun y e => ?_) (fun y e => ?_) (fun y e => ?_) (fun p h => ⟨(hp p h).1, (hp p h).2, tv.nt p h⟩) nd hx
  · cases x with
    | fr d => cases e; cases tv with | fr r => exact ⟨v, rfl, r⟩
    | _ => cases e
  · cases x with
    | fr d => cases e
    | _ => cases e; exact ⟨v, rfl, tv⟩
  · cases x <;> cases e
  · cases x <;> cases e
def sSetM (i : Nat) (vs : List Nat) (gm : Rho → R Tv) : Rho → SR := fun ρ => SR.of (gm ρ) fun x => .nx ((killD ρ vs).set i (some (slOf x)))
theorem ds_setM (i : Nat) (h : TDm K W vs te gm) : TDS K W (tAsg te (gName i)) (sSetM i vs gm) := fun F0 H0 F H σ ρ D S q => by
  obtain ⟨φ, S⟩ := S
  refine h F0 H0 F H σ ρ φ _ S (q.of S.ext fun x F1 H1 e k v fp tv nd hp => ?_)
  have S1 := (S.go e).drop (is := vs)
  refine k _ F1 H1 ⟨_, S1.putT tv nd (fun p h => ⟨?_, (hp p h).1⟩) fun j p hj h1 h2 => ?_⟩
  · rcases (hp p h).2 with z | ⟨i, _, z⟩
    · exact S.ext.h.free z
    · exact (S.fre i p z).1
  · obtain ⟨n1, n2⟩ := phis_mem h1
    rcases (hp p h2).2 with z | ⟨i', hi, z⟩
    · obtain ⟨_, _, o, y, _⟩ := S.fre j p n2
      rw [z] at y; cases y
    · have := S.dis i' j p z n2
      subst this
      exact n1 hi
def putsM : List Nat → Rho → List Tv → R Rho
  | [], ρ, [] => .ok ρ
  | i :: is, ρ, x :: xs => putsM is (ρ.set i (some (slOf x))) xs
  | _, _, _ => .bad
def unpM (is : List Nat) (ρ : Rho) : Tv → SR
  | .tup ts => SR.ofT (putsM is ρ ts)
  | .fr (.tuple ds) => SR.ofT (putsM is ρ (ds.map Tv.fr))
  | _ => .bad
def sUnpM (is vs : List Nat) (gm : Rho → R Tv) : Rho → SR := fun ρ => SR.of (gm ρ) fun x => unpM is (killD ρ (vs ++ is)) x
theorem dp_frs {F H : Hp} : ∀ {us : List V} {ds : List PD}, DpAll K F us ds → TvAll K F H [] us (ds.map Tv.fr)
  | _, _, .nil => .nil
  | _, _, .cons h t => .cons (.fr h) (dp_frs t)
end
end DL
namespace DL
open PySem PySem.Spec PyProof.Rows L2
section
variable {K : PySem.W.Frag} {W : WX}
def HdQ (K : PySem.W.Frag) (Q : VK) : PD → Hp → Hp → Prop := fun x _ H' => ∀ v, Dp K H' v x → Q v H'
def TDh (K : PySem.W.Frag) (W : WX) (t : TE) (g : Rho → R PD) : Prop := ∀ (F0 H0 F H : Hp) (σ : L2.St) (ρ : Rho) (Q : VK), StR K F0 H0 F H σ ρ → Fin K W σ F H (g ρ) (HdQ K Q) → t σ H Q
def TDhq (K : PySem.W.Frag) (W : WX) (t : TA) (g : Rho → R (List PD)) : Prop := ∀ (F0 H0 F H : Hp) (σ : L2.St) (ρ : Rho) (Q : List V → Hp → Prop), StR K F0 H0 F H σ ρ → Fin K W σ F H (g ρ) (fun xs _ H' => ∀ vs, DpAll K H' vs xs → Q vs H') → t σ H Q
variable {t ta tb tc : TE} {g ga gb gc : Rho → R PD} {tt : TT} {tr tq : TA} {gr gq : Rho → R (List PD)} {r r' : R2} {f f' : PD → PD → R PD}
theorem TDe.h (h : TDe K W t g) : TDh K W t g := fun F0 H0 F H σ ρ Q S q => h F0 H0 F H σ ρ Q S (q.imp fun x F' H' e k v r => k v (r.mono e.g))
def noDic : PD → R PD
  | .dict _ => .bad
  | x => .ok x
theorem noDic_ok {x y : PD} (h : noDic x = .ok y) : y = x ∧ ∀ kvs, x ≠ .dict kvs := by
  cases x with
  | dict _ => cases h
  | _ => cases h; exact ⟨rfl, fun kvs z => nomatch z⟩
theorem noDic_x (x : PD) (c : Ec) : noDic x ≠ .exc c := by cases x <;> exact fun z => by cases z
def hR (g : Rho → R PD) : Rho → R PD := fun ρ => (g ρ).bind noDic
theorem TDr.h (h : TDr K W t g) : TDh K W t (hR g) := fun F0 H0 F H σ ρ Q S q => h F0 H0 F H σ ρ Q S (q.then fun x F' H' e k v r => by
  cases en : noDic x with
  | ok y =>
    rw [en] at k
    obtain ⟨rfl, nd⟩ := noDic_ok en
    exact (Fin.okk (x := y) K W σ e.g k) v (r.dp e.g nd)
  | exc c => exact absurd en (noDic_x x c)
  | bad => rw [en] at k; exact k.elim)
def hVar (i : Nat) : Rho → R PD := fun ρ => match ρ[i]? with
  | some (some (.d x)) => .ok x
  | some (some (.t x)) => x.toD
  | _ => .bad
theorem th_var (i : Nat) : TDh K W (tVar i) (hVar i) := fun F0 H0 F H σ ρ Q S q => by
  unfold hVar at q
  split at q
  · rename_i x e
    obtain ⟨v, a, b⟩ := S.dat i x e
    exact ⟨v, a, q.ok S.same v (b.mono S.same)⟩
  · rename_i x e
    obtain ⟨φ, S⟩ := S
    obtain ⟨v, a, b⟩ := S.tre i x e
    cases ed : x.toD with
    | ok d =>
      rw [ed] at q
      exact ⟨v, a, q.ok S.same v ((b.frz S.same ed).mono (frz_g S.same))⟩
    | exc c => exact absurd ed (toD_x x c)
    | bad => rw [ed] at q; exact q.elim
  · exact q.elim
theorem Fin.toH {σ : L2.St} {F H : Hp} {r : R PD} {Q : VK} (s : Same F H) (k : Fin K W σ F H r (HdQ K Q)) : Fin K W σ H H r (DpQ K Q) := by
  cases r with
  | ok x => exact fun F' H' e v r => k F H' (Ext.heap s e.h) v (r.mono e.g)
  | exc c => exact fun cls d F' H' e q => k cls d F H' (Ext.heap s e.h) q
  | bad => exact k
theorem DpAll.rp {F H : Hp} : ∀ {vs : List V} {ds : List PD}, DpAll K F vs ds → RpAll K F H vs ds
  | _, _, .nil => .nil
  | _, _, .cons a t => .cons (.inl a) (DpAll.rp t)
theorem th_op (hr : RD K r f) (ha : TDh K W ta ga) (hb : TDh K W tb gb) : TDh K W (tOp r ta tb) (eOp f ga gb) := fun F0 H0 F H σ ρ Q S q =>
  ha F0 H0 F H σ ρ _ S (q.then fun a F1 H1 e1 k1 v rv => hb F0 H0 F1 H1 σ ρ _ (S.go e1) (k1.then fun b F2 H2 e2 k2 u ru =>
    hr W σ H2 H2 v u a b Q (Same.refl H2) (.inl (rv.mono e2.h)) (.inl ru) (k2.toH e2.g)))
theorem th_cb {rc : List V → Hp → VK → Prop} {fc : List PD → R PD} (hr : RC K rc fc) (h : TDhq K W tq gq) : TDh K W (tCB rc tq) (eCB fc gq) := fun F0 H0 F H σ ρ Q S q =>
  h F0 H0 F H σ ρ _ S (q.then fun ds F1 H1 e1 k1 vs rs => hr W σ H1 H1 vs ds Q (Same.refl H1) rs.rp (k1.toH e1.g))
def immO (d : PD) : R PD := if immD d = true then .ok d else .bad
def eImm (g : Rho → R PD) : Rho → R PD := fun ρ => (g ρ).bind immO
theorem TDh.e (h : TDh K W t g) : TDe K W t (eImm g) := fun F0 H0 F H σ ρ Q S q => h F0 H0 F H σ ρ Q S (q.then fun x F' H' e k v r => by
  have k : Fin K W σ F' H' (if immD x = true then .ok x else .bad) (DpQ K Q) := k
  by_cases hx : immD x = true
  · rw [if_pos hx] at k
    exact k _ _ (Ext.tups e.g (Same.refl H')) v (r.imm (Same.refl H') hx)
  · rw [if_neg hx] at k
    exact k.elim)
theorem thq_nil : TDhq K W tNil aNil := fun F0 H0 F H σ ρ Q S q => q.ok S.same _ .nil
theorem thq_cons (ha : TDh K W ta ga) (hr : TDhq K W tr gr) : TDhq K W (tCons ta tr) (aCons ga gr) := fun F0 H0 F H σ ρ Q S q =>
  ha F0 H0 F H σ ρ _ S (q.then fun a F1 H1 e1 k1 v rv => hr F0 H0 F1 H1 σ ρ _ (S.go e1) (k1.then fun l F2 H2 e2 k2 vs rs => k2.ok e2.g _ (.cons (rv.mono e2.h) rs)))
theorem asB_h {Q : Bool → Hp → Prop} {F1 H1 : Hp} {σ : L2.St} {a : PD} {v : V} (s : Same F1 H1) (r : Dp K H1 v a) (k : Fin K W σ F1 H1 (asB a) (BoQ Q)) : ∃ c, v = .bl c ∧ Q c H1 := by
  cases a with
  | bool b => cases r; exact ⟨b, rfl, k.ok s⟩
  | _ => exact k.elim
theorem tt_testh (h : TDh K W t g) : TDt K W (tTest t) (bOf g) := fun F0 H0 F H σ ρ Q S q =>
  h F0 H0 F H σ ρ _ S (q.then fun a F1 H1 e1 k1 v rv => asB_h e1.g rv k1)
variable {n : Nat} {fd : List PD → FR}
def eCallH (n : Nat) (f : List PD → FR) (gq : Rho → R (List PD)) : Rho → R PD := fun ρ => (gq ρ).bind fun ds => if ds.length = n then (f ds).toE.bind immO else .bad
theorem td_callH (h : TDhq K W tq gq) : TDe K W (tCallS (spD K n fd) (WE W) tq) (eCallH n fd gq) := fun F0 H0 F H σ ρ Q S q =>
  h F0 H0 F H σ ρ _ S (q.then fun ds F1 H1 e1 k1 vs rs => by
    by_cases hn : ds.length = n
    · rw [if_pos hn] at k1
      refine ⟨by rw [rs.length]; exact hn, H1, ds, Same.refl H1, rs, ?_⟩
      have fin : ∀ (d : PD) (F' H' : Hp) (v : V), Ext H1 H1 F' H' → Dp K F' v d → Fin K W σ F1 H1 (immO d) (DpQ K Q) → Q v H' := fun d F' H' v ex r k => by
        have k : Fin K W σ F1 H1 (if immD d = true then .ok d else .bad) (DpQ K Q) := k
        by_cases hx : immD d = true
        · rw [if_pos hx] at k
          exact k _ _ (Ext.tups e1.g ex.h) v (r.imm ex.g hx)
        · rw [if_neg hx] at k
          exact k.elim
      cases e : fd ds with
      | rt s =>
        rw [e] at k1
        cases s with
        | d x => exact fun v F' H' ex r => fin x F' H' v ex r k1
        | t x =>
          intro v fp F' H' ex tv nd hp
          have k1 : Fin K W σ F1 H1 (x.toD.bind immO) (DpQ K Q) := k1
          cases e2 : x.toD with
          | ok d =>
            rw [e2] at k1
            obtain ⟨F'', ex2, r⟩ := own_frz ex tv hp e2
            exact fin d F'' H' v ex2 r k1
          | exc c => exact absurd e2 (toD_x x c)
          | bad => rw [e2] at k1; exact k1.elim
        | l x => exact k1.elim
        | b x => exact k1.elim
      | exc c => rw [e] at k1; exact fun cls d F' H' ex r => k1 cls d F1 H' (Ext.heap e1.g ex.h) r
      | bad => rw [e] at k1; exact k1.elim
    · rw [if_neg hn] at k1
      exact k1.elim)
theorem TDo.h (h : TDo K W t g) : TDh K W t (eFz g) := h.e.h
def killS (is : List Nat) (s : Rho → SR) : Rho → SR := fun ρ => match s ρ with
  | .nx ρ1 => .nx (is.foldl (fun ρ i => ρ.set i none) ρ1)
  | .ct ρ1 => .ct (is.foldl (fun ρ i => ρ.set i none) ρ1)
  | .bk ρ1 => .bk (is.foldl (fun ρ i => ρ.set i none) ρ1)
  | x => x
theorem StR.kills {F0 H0 F H : Hp} {σ : L2.St} : ∀ {is : List Nat} {ρ : Rho}, StR K F0 H0 F H σ ρ → StR K F0 H0 F H σ (is.foldl (fun ρ i => ρ.set i none) ρ)
  | [], _, S => S
  | i :: is, ρ, S => StR.kills (is := is) (S.kill i)
theorem ds_kill {ts : TS} {s : Rho → SR} (is : List Nat) (h : TDS K W ts s) : TDS K W ts (killS is s) := fun F0 H0 F H σ ρ D S q => by
  refine h F0 H0 F H σ ρ D S ?_
  unfold killS at q
  cases e : s ρ with
  | nx ρ1 => rw [e] at q; exact fun σ1 F1 H1 S1 => q σ1 F1 H1 S1.kills
  | ct ρ1 => rw [e] at q; exact fun σ1 F1 H1 S1 => q σ1 F1 H1 S1.kills
  | bk ρ1 => rw [e] at q; exact fun σ1 F1 H1 S1 => q σ1 F1 H1 S1.kills
  | rt x => rw [e] at q; exact q
  | exc c => rw [e] at q; exact q
  | bad => rw [e] at q; exact q
end
end DL
namespace DL
open PySem PySem.Spec PyProof.Rows L2
section
def keysOf : List PD → Option (List Key)
  | [] => some []
  | d :: ds => match keyOf d, keysOf ds with
    | some k, some ks => some (k :: ks)
    | _, _ => none
def keyT? : PD → Option (List Key)
  | .tuple ds => keysOf ds
  | _ => none
def valT {β : Type} : List (List Key × β) → List Key → Option β
  | [], _ => none
  | p :: r, k => if p.1 = k then some p.2 else valT r k
def putT (kvs : List (List Key × PD)) (k : List Key) (d : PD) : List (List Key × PD) :=
  if (valT kvs k).isSome = true then kvs.map (fun p => if p.1 = k then (p.1, d) else p) else kvs ++ [(k, d)]
variable {K : PySem.W.Frag} {W : WX} {F0 H0 F H : Hp} {σ : L2.St} {ρ : Rho} {ty tv tx : TE} {g gk gv gx : Rho → R PD}
theorem keys_dp : ∀ {ds : List PD} {ks : List Key} {vs : List V}, DpAll K H vs ds → keysOf ds = some ks → vs = ks.map kV
  | [], ks, _, .nil, h => by cases h; rfl
  | d :: ds, ks, _, .cons r rs, h => by
    unfold keysOf at h
    split at h
    · rename_i k ks' e1 e2
      cases h
      rw [keyD_of e1] at r
      rw [key_rp (H := H) (.inl r), keys_dp rs e2]
      rfl
    · cases h
theorem key_t {v : V} {d : PD} {ks : List Key} (r : Dp K H v d) (h : keyT? d = some ks) : ∃ b, v = .ref b ∧ H b = some (.tup (ks.map kV)) := by
  cases r with
  | tup s al => exact ⟨_, rfl, by rw [s, keys_dp al h]⟩
  | _ => cases h
theorem KvT.len {es : List (List Key × V)} {kvs : List (List Key × PD)} (r : KvT K F es kvs) : es.length = kvs.length := Paired.length r
theorem KvT.val {es : List (List Key × V)} {kvs : List (List Key × PD)} (r : KvT K F es kvs) (k : List Key) : (valT kvs k = none ∧ valV es k = none) ∨ ∃ d v, valT kvs k = some d ∧ valV es k = some v ∧ Dp K F v d := by
  unfold KvT at r
  induction r with
  | nil => exact .inl ⟨rfl, rfl⟩
  | cons a _ ih =>
    rename_i p q es kvs _
    unfold valT
    by_cases e : q.1 = k
    · rw [if_pos e, valV_pos (a.1.trans e)]
      exact .inr ⟨_, _, rfl, rfl, a.2⟩
    · rw [if_neg e, valV_neg (fun z => e (a.1.symm.trans z))]
      exact ih
theorem KvT.put {es : List (List Key × V)} {kvs : List (List Key × PD)} (r : KvT K F es kvs) (k : List Key) {v : V} {d : PD} (h : Dp K F v d) : KvT K F (putK es k v) (putT kvs k d) := by
  have e : (es.any fun kv => decide (kv.1 = k)) = (valT kvs k).isSome := by
    rw [valV_any]
    rcases r.val k with ⟨a, b⟩ | ⟨_, _, a, b, _⟩
    · rw [a, b]; rfl
    · rw [a, b]; rfl
  unfold putK putT
  rw [e]
  split
  · rename_i c
    unfold KvT at r ⊢
    clear e c
    induction r with
    | nil => exact .nil
    | cons a _ ih =>
      rename_i p q es kvs _
      refine .cons ?_ ih
      show (if p.1 = k then (p.1, v) else p).1 = (if q.1 = k then (q.1, d) else q).1 ∧ Dp K F (if p.1 = k then (p.1, v) else p).2 (if q.1 = k then (q.1, d) else q).2
      by_cases e : q.1 = k
      · rw [if_pos e, if_pos (a.1.trans e)]; exact ⟨a.1, h⟩
      · rw [if_neg e, if_neg (fun z => e (a.1.symm.trans z))]; exact a
  · rename_i c
    unfold KvT at r ⊢
    clear e c
    induction r with
    | nil => exact .cons ⟨rfl, h⟩ .nil
    | cons a _ ih => exact .cons a ih
def tAt (ρ : Rho) (i : Nat) : R (List (List Key × PD)) := match ρ[i]? with
  | some (some (.t (.dT kvs))) => .ok kvs
  | _ => .bad
def getT (kvs : List (List Key × PD)) (y : PD) : R PD := match keyT? y with
  | some k => (match valT kvs k with
    | some d => .ok d
    | none => .bad)
  | none => .bad
def eDgetT (i : Nat) (g : Rho → R PD) : Rho → R PD := fun ρ => (tAt ρ i).bind fun kvs => (g ρ).bind fun y => getT kvs y
def mDnewT : Rho → R Tv := fun _ => .ok (.dT [])
def putTS (ρ : Rho) (i : Nat) (kvs : List (List Key × PD)) (y d : PD) : SR := match keyT? y with
  | some k => if kvs.length < sizeLine then .nx (ρ.set i (some (.t (.dT (putT kvs k d))))) else .bad
  | none => .bad
def sDputT (i : Nat) (gk gv : Rho → R PD) : Rho → SR := fun ρ => SR.of (gv ρ) fun d => SR.of (tAt ρ i) fun kvs => SR.of (gk ρ) fun y => putTS ρ i kvs y d
end
end DL
namespace DL
open PySem PySem.Spec PyProof.Rows L2 SrtO Srt
def ltK1 : Key → Key → Bool
  | .inl i, .inl j => decide (i < j)
  | .inr a, .inr b => decide (a.cps.toList < b.cps.toList)
  | .inl _, .inr _ => true
  | .inr _, .inl _ => false
def ltKs : List Key → List Key → Bool
  | [], [] => false
  | [], _ :: _ => true
  | _ :: _, [] => false
  | a :: as, b :: bs => if a = b then ltKs as bs else ltK1 a b
theorem str_ext {a b : Str} (h : a.cps.toList = b.cps.toList) : a = b := by
  cases a; cases b
  simp only at h
  rw [Array.toList_inj.mp h]
theorem ltK1_irr (a : Key) : ltK1 a a = false := by
  cases a with
  | inl i => simp [ltK1]
  | inr x => simp [ltK1, List.lt_irrefl]
theorem ltK1_asym {a b : Key} (h : ltK1 a b = true) : ltK1 b a = false := by
  cases a with
  | inl i => cases b with
    | inl j => simp [ltK1] at h ⊢; omega
    | inr y => rfl
  | inr x => cases b with
    | inl j => cases h
    | inr y => simp only [ltK1, decide_eq_true_eq, decide_eq_false_iff_not] at h ⊢; exact List.lt_asymm h
theorem ltK1_tri {a b : Key} (h : ltK1 a b = false) (h2 : ltK1 b a = false) : a = b := by
  cases a with
  | inl i => cases b with
    | inl j => simp [ltK1] at h h2; exact congrArg Sum.inl (by omega)
    | inr y => cases h
  | inr x => cases b with
    | inl j => cases h2
    | inr y =>
      simp only [ltK1, decide_eq_false_iff_not] at h h2
      exact congrArg Sum.inr (str_ext (List.le_antisymm (List.not_lt.mp h2) (List.not_lt.mp h)))
theorem ltK1_tr {a b c : Key} (h : ltK1 a b = true) (h2 : ltK1 b c = true) : ltK1 a c = true := by
  cases a with
  | inl i => cases b with
    | inl j => cases c with
      | inl k => simp [ltK1] at h h2 ⊢; omega
      | inr z => rfl
    | inr y => cases c with
      | inl k => cases h2
      | inr z => rfl
  | inr x => cases b with
    | inl j => cases h
    | inr y => cases c with
      | inl k => cases h2
      | inr z => simp only [ltK1, decide_eq_true_eq] at h h2 ⊢; exact List.lt_trans h h2
theorem ltKs_asym : ∀ {a b : List Key}, ltKs a b = true → ltKs b a = false
  | [], [], h => rfl
  | [], _ :: _, h => rfl
  | _ :: _, [], h => by cases h
  | a :: as, b :: bs, h => by
    unfold ltKs at h ⊢
    by_cases e : a = b
    · rw [if_pos e] at h; rw [if_pos e.symm]; exact ltKs_asym h
    · rw [if_neg e] at h; rw [if_neg (fun z => e z.symm)]; exact ltK1_asym h
theorem ltKs_tri : ∀ {a b : List Key}, ltKs a b = false → ltKs b a = false → a = b
  | [], [], _, _ => rfl
  | [], _ :: _, h, _ => by cases h
  | _ :: _, [], _, h => by cases h
  | a :: as, b :: bs, h, h2 => by
    unfold ltKs at h h2
    by_cases e : a = b
    · rw [if_pos e] at h; rw [if_pos e.symm] at h2; rw [e, ltKs_tri h h2]
    · rw [if_neg e] at h; rw [if_neg (fun z => e z.symm)] at h2; exact absurd (ltK1_tri h h2) e
theorem ltKs_tr : ∀ {a b c : List Key}, ltKs a b = true → ltKs b c = true → ltKs a c = true
  | [], [], _, h, _ => by cases h
  | [], _ :: _, [], _, h => by cases h
  | [], _ :: _, _ :: _, _, _ => rfl
  | _ :: _, [], _, h, _ => by cases h
  | _ :: _, _ :: _, [], _, h => by cases h
  | a :: as, b :: bs, c :: cs, h, h2 => by
    unfold ltKs at h h2 ⊢
    by_cases e : a = b
    · subst e
      rw [if_pos rfl] at h
      by_cases e2 : a = c
      · subst e2
        rw [if_pos rfl] at h2 ⊢
        exact ltKs_tr h h2
      · rw [if_neg e2] at h2 ⊢; exact h2
    · rw [if_neg e] at h
      by_cases e2 : b = c
      · subst e2
        rw [if_neg e]; exact h
      · rw [if_neg e2] at h2
        have h3 := ltK1_tr h h2
        have ne : a ≠ c := fun z => by subst z; rw [ltK1_irr] at h3; cases h3
        rw [if_neg ne]; exact h3
theorem swo_keys {α : Type} (k : α → List Key) : Swo fun v u => ltKs (k v) (k u) := by
  refine ⟨fun x y h => ltKs_asym h, fun x y z h1 h2 => ?_⟩
  rcases bcase (ltKs (k z) (k x)) with h | h
  · rcases bcase (ltKs (k x) (k y)) with q | q
    · rw [ltKs_tr h q] at h2; cases h2
    · rw [ltKs_tri h1 q] at h2; rw [h2] at h; cases h
  · exact h
def likeK : List Key → List Key → Bool
  | [], [] => true
  | .inl _ :: as, .inl _ :: bs => likeK as bs
  | .inr _ :: as, .inr _ :: bs => likeK as bs
  | _, _ => false
theorem like_len : ∀ {a b : List Key}, likeK a b = true → a.length = b.length
  | [], [], _ => rfl
  | [], _ :: _, h => by cases h
  | .inl _ :: _, [], h => by cases h
  | .inr _ :: _, [], h => by cases h
  | .inl _ :: as, .inl _ :: bs, h => by rw [List.length_cons, List.length_cons, like_len (a := as) (b := bs) h]
  | .inr _ :: as, .inr _ :: bs, h => by rw [List.length_cons, List.length_cons, like_len (a := as) (b := bs) h]
  | .inl _ :: _, .inr _ :: _, h => by cases h
  | .inr _ :: _, .inl _ :: _, h => by cases h
def KTup (h : Heap) (v : Value) (ks : List Key) : Prop := ∃ a its o n, v = .ref a ∧ h.get? a = some o ∧ o.cls = .type "tuple" ∧ o.data = .seq its n ∧ Vals (ks.map kV) its.toList
theorem KTup.keeps {h h' : Heap} {v : Value} {ks : List Key} (r : KTup h v ks) (k : ∀ b o, h.get? b = some o → o.cls = .type "tuple" → h'.get? b = some o) : KTup h' v ks := by
  obtain ⟨a, its, o, n, rfl, ho, hc, hd, hv⟩ := r
  exact ⟨a, its, o, n, rfl, k _ _ ho hc, hc, hd, hv⟩
section
variable {prog : Program} {w : World} {A : Around} {E : Value → Shared → Prop} {s : Shared}
theorem oneLt_strs (c : Bool) {p q : Str} {t u : Tok} {Q : Bool → Shared → Prop} (h : Q (decide (p.cps.toList < q.cps.toList)) s) : wpAny (model prog w) A (oneLt' c (.str p t) (.str q u)) Q E s := by
  cases c with
  | true => exact oneLt_str h
  | false => exact PySem.W.kat_one _ _ (PyProof.Rows.lt_str h)
theorem lexK {Q : Bool → Shared → Prop} : ∀ {ks js : List Key} {us vs : List Value} {i : Nat}, Vals (ks.map kV) us → Vals (js.map kV) vs → likeK ks js = true → Q (ltKs ks js) s → PySem.W.KatLex prog w A true false Q (us.zip vs) i s := by
  intro ks
  induction ks with
  | nil =>
    intro js us vs i ru rv hl q
    cases js with
    | nil => cases ru; exact PySem.W.kat_nil q
    | cons _ _ => cases hl
  | cons k ks ih =>
    intro js us vs i ru rv hl q
    cases js with
    | nil => cases k <;> cases hl
    | cons j js =>
      cases ru with
      | cons r1 ru =>
        cases rv with
        | cons r2 rv =>
          cases k with
          | inl a =>
            cases j with
            | inr b => cases hl
            | inl b =>
              obtain ⟨t, rfl⟩ := r1
              obtain ⟨t', rfl⟩ := r2
              refine PySem.W.kat_cons (SeqAt.EqAt.int_int a t b t' prog w _ _ ?_)
              refine PySem.W.kat_go (fun e1 => ?_) (fun e1 => ?_)
              · have ex : a = b := by simpa using e1
                subst ex
                unfold ltKs at q
                rw [if_pos rfl] at q
                exact PySem.W.kat_yes (ih ru rv hl q)
              · have ex : ¬ a = b := by simpa using e1
                unfold ltKs at q
                rw [if_neg (fun z => ex (Sum.inl.inj z))] at q
                exact PySem.W.kat_no (TS.oneLt_ints _ q)
          | inr a =>
            cases j with
            | inl b => cases hl
            | inr b =>
              obtain ⟨t, rfl⟩ := r1
              obtain ⟨t', rfl⟩ := r2
              refine PySem.W.kat_cons (SeqAt.EqAt.str_str a t b t' prog w _ _ ?_)
              refine PySem.W.kat_go (fun e1 => ?_) (fun e1 => ?_)
              · have ex : a = b := by simpa using e1
                subst ex
                unfold ltKs at q
                rw [if_pos rfl] at q
                exact PySem.W.kat_yes (ih ru rv hl q)
              · have ex : ¬ a = b := by simpa using e1
                unfold ltKs at q
                rw [if_neg (fun z => ex (Sum.inr.inj z))] at q
                exact PySem.W.kat_no (oneLt_strs _ q)
theorem keys_cmp {vs : List Value} {k : Value → List Key} (hp : ∀ v ∈ vs, KTup s.heap v (k v)) (hl : ∀ v ∈ vs, ∀ u ∈ vs, likeK (k v) (k u) = true) : Cmp prog w A s (tuples' true) (fun p => p.1 ∈ vs) (lt2 fun v u => ltKs (k v) (k u)) := by
  intro p q hm hm'
  obtain ⟨a, its, o, n, e, ho, hc, hd, hv⟩ := hp _ hm
  obtain ⟨a', its', o', n', e', ho', hc', hd', hv'⟩ := hp _ hm'
  show wpAny (model prog w) A (keyLt' (tuples' true) p.1 q.1) (fun r s' => s' = s ∧ r = ltKs (k p.1) (k q.1)) (fun _ _ => False) s
  have ll := hl _ hm _ hm'
  generalize k p.1 = kp at hv ll ⊢
  generalize k q.1 = kq at hv' ll ⊢
  rw [e, e']
  refine PySem.W.kat_lt ho hd ho' hd' ?_
  have h1 : its.size = kp.length := by have := Paired.length hv; rw [List.length_map] at this; rw [← Array.length_toList]; exact this.symm
  have h2 : its'.size = kq.length := by have := Paired.length hv'; rw [List.length_map] at this; rw [← Array.length_toList]; exact this.symm
  rw [show decide (its.size < its'.size) = false by rw [h1, h2, like_len ll]; exact decide_eq_false (Nat.lt_irrefl _)]
  exact lexK hv hv' ll ⟨rfl, rfl⟩
theorem firsts_k {h : Heap} {k : Value → List Key} {T : Bool} : ∀ {vs : List Value}, (∀ v ∈ vs, KTup h v (k v) ∧ ∃ x r, k v = x :: r ∧ x.isLeft = T) → ∃ fs : List Value, PySem.W.KatTups h vs fs ∧ fs.length = vs.length ∧ ∀ f ∈ fs, ∃ x : Key, x.isLeft = T ∧ RelV (kV x) f
  | [], _ => ⟨[], PySem.W.KatTups.nil, rfl, fun _ hm => by simp at hm⟩
  | v :: vs, hp => by
    obtain ⟨⟨a, its, o, n, e, ho, hc, hd, hv⟩, x, r, ek, ht⟩ := hp v List.mem_cons_self
    obtain ⟨fs, h1, h2, h3⟩ := firsts_k (vs := vs) fun u hu => hp u (List.mem_cons_of_mem _ hu)
    rw [ek] at hv
    obtain ⟨il⟩ := its
    cases hv with
    | cons r1 r2 =>
      rw [e]
      refine ⟨_ :: fs, PySem.W.KatTups.cons ho hc hd rfl h1, by rw [List.length_cons, List.length_cons, h2], fun f hm => ?_⟩
      rcases List.mem_cons.mp hm with e | hm
      · rw [e]; exact ⟨x, ht, r1⟩
      · exact h3 f hm
theorem keys_sortable {a : Addr} {vs : List Value} {k : Value → List Key} (h0 : 0 < vs.length) (hp : ∀ v ∈ vs, KTup s.heap v (k v)) (hn : ∀ v ∈ vs, k v ≠ []) (hl : ∀ v ∈ vs, ∀ u ∈ vs, likeK (k v) (k u) = true)
    (ha : ∀ o, s.heap.get? a = some o → o.cls ≠ .type "tuple") : SortableO prog w A s a vs fun v u => ltKs (k v) (k u) := by
  intro h' keep
  have hp' : ∀ v ∈ vs, KTup h' v (k v) := fun v hm => (hp v hm).keeps fun b o e c => keep b o (fun z => by subst z; exact ha o e c) e
  obtain ⟨v0, hv0⟩ : ∃ v, v ∈ vs := by
    cases vs with
    | nil => cases h0
    | cons v _ => exact ⟨v, List.mem_cons_self⟩
  obtain ⟨x0, r0, e0⟩ : ∃ x r, k v0 = x :: r := by
    cases e : k v0 with
    | nil => exact absurd e (hn v0 hv0)
    | cons x r => exact ⟨x, r, rfl⟩
  have first : ∀ v ∈ vs, ∃ x r, k v = x :: r ∧ x.isLeft = x0.isLeft := fun v hv => by
    have := hl v hv v0 hv0
    rw [e0] at this
    cases e : k v with
    | nil => exact absurd e (hn v hv)
    | cons x r =>
      rw [e] at this
      refine ⟨x, r, rfl, ?_⟩
      cases x <;> cases x0 <;> first | rfl | cases this
  obtain ⟨fs, h1, h2, h3⟩ := firsts_k (T := x0.isLeft) fun v hv => ⟨hp' v hv, first v hv⟩
  refine ⟨tuples' true, fun Q E hq => ?_, keys_cmp (s := { s with heap := h' }) hp' hl⟩
  cases x0 with
  | inl i =>
    refine PySem.W.kat_kind (T := .type "int") h1 (by omega) (fun f hm => ?_) (by rfl) ?_
    · obtain ⟨x, hx, r⟩ := h3 f hm
      cases x with
      | inl j => obtain ⟨t, rfl⟩ := r; exact PySem.W.Looks.now
      | inr j => cases hx
    · have e : (Value.type "int" != Value.type "tuple") = true := by first | decide +kernel | rfl | decide
      rw [e]
      exact hq
  | inr i =>
    refine PySem.W.kat_kind (T := .type "str") h1 (by omega) (fun f hm => ?_) (by rfl) ?_
    · obtain ⟨x, hx, r⟩ := h3 f hm
      cases x with
      | inr j => obtain ⟨t, rfl⟩ := r; exact PySem.W.Looks.now
      | inl j => cases hx
    · have e : (Value.type "str" != Value.type "tuple") = true := by first | decide +kernel | rfl | decide
      rw [e]
      exact hq
theorem sorted_keysL {l : Addr} {vs : List Value} {k : Value → List Key} {Q : Value → Shared → Prop} (hl : s.heap.IsList l vs.toArray) (hz : vs.length ≤ sizeLine) (hp : ∀ v ∈ vs, KTup s.heap v (k v)) (hn : ∀ v ∈ vs, k v ≠ []) (hk : ∀ v ∈ vs, ∀ u ∈ vs, likeK (k v) (k u) = true)
    (h : ∀ (h' : Heap) (d : Addr) (out : List Value), Srtd (fun v u => ltKs (k v) (k u)) out → Stb (fun v u => ltKs (k v) (k u)) out vs → (∀ b o, s.heap.get? b = some o → h'.get? b = some o) → s.heap.objs.size ≤ d → (∃ n, h'.get? d = some (seqObj "list" out.toArray n)) → Q (.ref d) { s with heap := h' }) :
    wpAny (model prog w) A (call (.builtin "sorted") [.ref l]) Q E s := by
  refine sorted_ord (swo_keys k) hl hz (fun h2 h₁ a ha kk => ?_) fun out hs hb => ?_
  · refine keys_sortable (s := { s with heap := h₁ }) (by omega) (fun v hm => (hp v hm).keeps fun b o e _ => (kk b o e).2) hn hk fun o e => ?_
    have e' : some o = some (seqObj "list" vs.toArray 0) := e.symm.trans ha
    cases e'
    intro c
    exact absurd (Value.type.inj c) (by decide)
  · exact h _ _ out hs hb (fun b o e => sortedAll_old e) (Nat.le_succ _) (sortedAll_at s.heap vs out.toArray)
end
abbrev ltV (k : V → List Key) (x y : V) : Bool := ltKs (k x) (k y)
def rSortedK (K : PySem.W.Frag) : List V → Hp → VK → Prop := fun vs H Q => ∃ (a : Addr) (xs : List V) (k : V → List Key), vs = [V.ref a] ∧ SqL K H a xs ∧ (∀ x ∈ xs, k x ≠ [] ∧ ∃ t, x = V.ref t ∧ H t = some (.tup ((k x).map kV))) ∧ (∀ x ∈ xs, ∀ y ∈ xs, likeK (k x) (k y) = true) ∧
  ∀ ys p, Srtd (ltV k) ys → ys.Perm xs → H p = none → Q (.ref p) (upd H p (.lst ys))
theorem ktup_of {P : Program} {w : World} {H : Hp} {h : Heap} {t : Addr} {ks : List Key} (ok : HOk P w H h) (e : H t = some (.tup (ks.map kV))) : KTup h (.ref t) ks := by
  obtain ⟨_, its, rv, o, ho, hc, n, hd⟩ := ok _ _ e
  exact ⟨t, its.toArray, o, n, rfl, ho, hc, hd, by simpa using rv⟩
section
variable {X : Cx}
theorem cr_sortedK : CallR X (.builtin "sorted") (rSortedK X.K) := by
  intro pins s σ H vs us Q I r h
  obtain ⟨a, xs, k, rfl, hs, hx, hl, q⟩ := h
  obtain ⟨its, rv, hli, hz⟩ := I.list hs
  obtain ⟨u, rfl, ru⟩ := vals1 r
  obtain rfl : u = Value.ref a := ru
  obtain ⟨e1, e2⟩ := refs_back rv fun x m => by
    obtain ⟨_, t, e, _⟩ := hx x m
    exact ⟨t, e⟩
  have back : ∀ v ∈ its, backV v ∈ xs := fun v hv => by rw [e1]; exact List.mem_map_of_mem hv
  refine sorted_keysL (k := fun u => k (backV u)) hli.isList (by rw [← rv.length]; exact hz) (fun v hv => ?_) (fun v hv => (hx _ (back v hv)).1) (fun v hv u hu => hl _ (back v hv) _ (back u hu)) fun h' d out h1 h2 kp hd hn => ?_
  · obtain ⟨t, rfl⟩ := e2 v hv
    obtain ⟨_, t', e, ht⟩ := hx _ (back _ hv)
    cases e
    exact ktup_of I.hok ht
  · have h3 : ∀ u ∈ out, ∃ a, u = Value.ref a := fun u hu => e2 u (h2.perm.mem_iff.mp hu)
    obtain ⟨n, hn⟩ := hn
    have hb : (out.map backV).Perm xs := by
      rw [e1]
      exact h2.perm.map backV
    refine ⟨.ref d, upd H d (.lst (out.map backV)), I.laid (t' := s.toks) kp hd ⟨?_, out, n, vals_back h3, hn⟩, rfl, q _ d (SrtO.srtd_map h1) hb (I.hok.fresh hd)⟩
    rw [hb.length_eq]
    exact hz
end
section
variable {prog : Program} {w : World} {A : Around} {E : Value → Shared → Prop} {s : Shared}
theorem sorted_tail {vs : List Value} {k : Value → List Key} {Q : Value → Shared → Prop} (hz : vs.length ≤ sizeLine) (hp : ∀ v ∈ vs, KTup s.heap v (k v)) (hn : ∀ v ∈ vs, k v ≠ []) (hk : ∀ v ∈ vs, ∀ u ∈ vs, likeK (k v) (k u) = true)
    (h : ∀ (h' : Heap) (d : Addr) (out : List Value), Srtd (fun v u => ltKs (k v) (k u)) out → Stb (fun v u => ltKs (k v) (k u)) out vs → (∀ b o, s.heap.get? b = some o → h'.get? b = some o) → s.heap.objs.size ≤ d → (∃ n, h'.get? d = some (seqObj "list" out.toArray n)) → Q (.ref d) { s with heap := h' }) :
    wpAny (model prog w) A.in1 (call (.builtin "list.sort") [.ref s.heap.objs.size]) (fun _ s' => Q (.ref s.heap.objs.size) s') E { s with heap := s.heap.push (seqObj "list" vs.toArray 0) } := by
  have hoL : (s.heap.push (seqObj "list" vs.toArray 0)).get? s.heap.objs.size = some (seqObj "list" vs.toArray 0) := Heap.get?_push_size _ rfl
  have keep : ∀ b o, s.heap.get? b = some o → b ≠ s.heap.objs.size ∧ (s.heap.push (seqObj "list" vs.toArray 0)).get? b = some o := fun b o q => ⟨Nat.ne_of_lt (Heap.lt_size q), Heap.get?_push_of_some _ q⟩
  refine wpAny_call_entry PyProof.Rows.slot_list_sort ⟨_, hoL, rfl⟩ PyProof.Rows.entry_list_sort (list_sort_ord (s := { s with heap := s.heap.push (seqObj "list" vs.toArray 0) }) (swo_keys k) hoL hz (fun h2 => keys_sortable (s := { s with heap := s.heap.push (seqObj "list" vs.toArray 0) }) (by omega) (fun v hm => (hp v hm).keeps fun b o e _ => (keep b o e).2) hn hk fun o e => ?_) fun out hs hb => ⟨_, rfl, ?_⟩) (PyProof.Rows.args_list_sort _)
  · have e' : some o = some (seqObj "list" vs.toArray 0) := e.symm.trans hoL
    cases e'
    intro c
    exact absurd (Value.type.inj c) (by decide)
  · refine h _ _ out hs hb (fun b o e => ?_) (Nat.le_refl _) (sortedHeap_at hoL)
    obtain ⟨e1, e2⟩ := keep b o e
    exact (sortedHeap_old e1 (Heap.lt_size e2)).trans e2
end
section
variable {X : Cx}
open Classical in
noncomputable def keyAt (h : Heap) (v : Value) : List Key := if e : ∃ ks, KTup h v ks then e.choose else []
theorem vals_kV : ∀ {as bs : List Key} {us : List Value}, Vals (as.map kV) us → Vals (bs.map kV) us → as = bs
  | [], [], _, _, _ => rfl
  | [], _ :: _, _, .nil, r => by cases r
  | _ :: _, [], _, r, .nil => by cases r
  | a :: as, b :: bs, _, .cons r1 t1, .cons r2 t2 => by
    rw [vals_kV t1 t2]
    cases a with
    | inl i => cases b with
      | inl j => obtain ⟨t, rfl⟩ := r1; obtain ⟨t', e⟩ := r2; cases e; rfl
      | inr y => obtain ⟨t, rfl⟩ := r1; obtain ⟨t', e⟩ := r2; cases e
    | inr x => cases b with
      | inl j => obtain ⟨t, rfl⟩ := r1; obtain ⟨t', e⟩ := r2; cases e
      | inr y => obtain ⟨t, rfl⟩ := r1; obtain ⟨t', e⟩ := r2; cases e; rfl
theorem ktup_one {h : Heap} {v : Value} {as bs : List Key} (r : KTup h v as) (q : KTup h v bs) : as = bs := by
  obtain ⟨a, its, o, n, rfl, ho, hc, hd, hv⟩ := r
  obtain ⟨a', its', o', n', e, ho', hc', hd', hv'⟩ := q
  cases e
  rw [ho] at ho'; cases ho'
  rw [hd] at hd'; cases hd'
  exact vals_kV hv hv'
theorem keyAt_of {h : Heap} {v : Value} {ks : List Key} (r : KTup h v ks) : keyAt h v = ks := by
  have e : ∃ ks, KTup h v ks := ⟨ks, r⟩
  unfold keyAt
  rw [dif_pos e]
  exact ktup_one e.choose_spec r
theorem srt_out {h : Heap} {H : Hp} {P : Program} {w : World} (ok : HOk P w H h) {out vs : List Value} {ks : List (List Key)} {bs : List Addr} (ev : vs = bs.map Value.ref) (pr : Paired (fun k b => H b = some (.tup (k.map kV))) ks bs)
    (hs : Srtd (fun v u => ltKs (keyAt h v) (keyAt h u)) out) (hp : out.Perm vs) : ∃ (bs' : List Addr) (ks' : List (List Key)), out = bs'.map Value.ref ∧ Srtd (fun a b => ltKs a b) ks' ∧ ks'.Perm ks ∧ Paired (fun k b => H b = some (.tup (k.map kV))) ks' bs' := by
  have at' : ∀ b ∈ bs, ∃ k, H b = some (.tup (k.map kV)) ∧ keyAt h (.ref b) = k := by
    intro b hb
    clear ev hp hs
    induction pr with
    | nil => cases hb
    | cons a _ ih =>
      rcases List.mem_cons.mp hb with e | hb
      · rw [e]; exact ⟨_, a, keyAt_of (ktup_of ok a)⟩
      · exact ih hb
  have ek : ks = vs.map (keyAt h) := by
    rw [ev, List.map_map]
    clear ev hp hs at'
    induction pr with
    | nil => rfl
    | cons a _ ih => rw [List.map_cons, ← ih]; congr 1; exact (keyAt_of (ktup_of ok a)).symm
  have ho : ∀ u ∈ out, ∃ b ∈ bs, u = Value.ref b := fun u hu => by
    have := hp.mem_iff.mp hu
    rw [ev] at this
    obtain ⟨b, hb, e⟩ := List.mem_map.mp this
    exact ⟨b, hb, e.symm⟩
  have fin : ∀ l : List Value, (∀ u ∈ l, ∃ b ∈ bs, u = Value.ref b) → ∃ bs' : List Addr, l = bs'.map Value.ref ∧ Paired (fun k b => H b = some (.tup (k.map kV))) (l.map (keyAt h)) bs' := by
    intro l
    induction l with
    | nil => exact fun _ => ⟨[], rfl, .nil⟩
    | cons u l ih =>
      intro hl
      obtain ⟨bs', e, q⟩ := ih fun v hv => hl v (List.mem_cons_of_mem _ hv)
      obtain ⟨b, hb, rfl⟩ := hl u List.mem_cons_self
      obtain ⟨k, h1, h2⟩ := at' b hb
      refine ⟨b :: bs', by rw [e]; rfl, .cons ?_ q⟩
      rw [h2]; exact h1
  obtain ⟨bs', e, q⟩ := fin out ho
  exact ⟨bs', out.map (keyAt h), e, SrtO.srtd_map hs, by rw [ek]; exact hp.map _, q⟩
theorem refs_vals : ∀ bs : List Addr, Vals (bs.map V.ref) (bs.map Value.ref)
  | [] => .nil
  | _ :: r => .cons rfl (refs_vals r)
end
section
open L2.DX
variable {X : Cx}
abbrev pr2 (e : Key × Key) : List Key := [e.1, e.2]
end
end DL
namespace DL
open PySem PySem.Spec PyProof.Rows L2
section
variable {α : Type}
def insB (lt : α → α → Bool) (a : α) : List α → List α
  | [] => [a]
  | b :: l => if lt b a = true then b :: insB lt a l else a :: b :: l
def isort (lt : α → α → Bool) : List α → List α
  | [] => []
  | a :: l => insB lt a (isort lt l)
theorem insB_perm (lt : α → α → Bool) (a : α) : ∀ l : List α, (insB lt a l).Perm (a :: l)
  | [] => List.Perm.refl _
  | b :: l => by
    unfold insB
    split
    · exact ((insB_perm lt a l).cons b).trans (List.Perm.swap a b l)
    · exact List.Perm.refl _
theorem isort_perm (lt : α → α → Bool) : ∀ l : List α, (isort lt l).Perm l
  | [] => List.Perm.refl _
  | a :: l => (insB_perm lt a (isort lt l)).trans ((isort_perm lt l).cons a)
theorem insB_srt {lt : α → α → Bool} (O : SrtO.Swo lt) (a : α) : ∀ l : List α, SrtO.Srtd lt l → SrtO.Srtd lt (insB lt a l)
  | [], _ => List.pairwise_singleton _ _
  | b :: l, h => by
    obtain ⟨h1, h2⟩ := List.pairwise_cons.mp h
    unfold insB
    split
    · rename_i c
      refine List.pairwise_cons.mpr ⟨fun x hx => ?_, insB_srt O a l h2⟩
      rcases List.mem_cons.mp ((insB_perm lt a l).mem_iff.mp hx) with e | e
      · rw [e]; exact O.asym _ _ c
      · exact h1 x e
    · rename_i c
      have c : lt b a = false := by cases e : lt b a with | true => exact absurd e c | false => rfl
      refine List.pairwise_cons.mpr ⟨fun x hx => ?_, h⟩
      rcases List.mem_cons.mp hx with e | e
      · rw [e]; exact c
      · exact O.tr a b x c (h1 x e)
theorem isort_srt {lt : α → α → Bool} (O : SrtO.Swo lt) : ∀ l : List α, SrtO.Srtd lt (isort lt l)
  | [] => List.Pairwise.nil
  | a :: l => insB_srt O a _ (isort_srt O l)
theorem srt_uniq {lt : α → α → Bool} (tri : ∀ a b, lt a b = false → lt b a = false → a = b) : ∀ {l m : List α}, SrtO.Srtd lt l → SrtO.Srtd lt m → l.Perm m → l = m
  | [], m, _, _, h => (List.Perm.eq_nil h.symm).symm
  | x :: l, [], _, _, h => absurd h.length_eq (by simp)
  | x :: l, y :: m, hl, hm, h => by
    obtain ⟨a1, a2⟩ := List.pairwise_cons.mp hl
    obtain ⟨b1, b2⟩ := List.pairwise_cons.mp hm
    have e : x = y := by
      rcases List.mem_cons.mp (h.mem_iff.mp (List.mem_cons_self (a := x) (l := l))) with e | hx
      · exact e
      · rcases List.mem_cons.mp (h.mem_iff.mpr (List.mem_cons_self (a := y) (l := m))) with e | hy
        · exact e.symm
        · exact tri x y (b1 x hx) (a1 y hy)
    subst e
    rw [srt_uniq tri a2 b2 h.cons_inv]
theorem isort_of {lt : α → α → Bool} (O : SrtO.Swo lt) (tri : ∀ a b, lt a b = false → lt b a = false → a = b) {l m : List α} (h : SrtO.Srtd lt l) (p : l.Perm m) : l = isort lt m :=
  srt_uniq tri h (isort_srt O m) (p.trans (isort_perm lt m).symm)
end
def ltI (a b : Int) : Bool := decide (a < b)
theorem swo_I : SrtO.Swo ltI := ⟨fun x y h => by simp only [ltI, decide_eq_true_eq, decide_eq_false_iff_not] at h ⊢; omega, fun x y z h1 h2 => by simp only [ltI, decide_eq_false_iff_not] at h1 h2 ⊢; omega⟩
theorem tri_I (a b : Int) (h : ltI a b = false) (h2 : ltI b a = false) : a = b := by simp only [ltI, decide_eq_false_iff_not] at h h2; omega
abbrev sortI : List Int → List Int := isort ltI
abbrev sortK : List (List Key) → List (List Key) := isort fun a b => ltKs a b
theorem sortK_of {l m : List (List Key)} (h : SrtO.Srtd (fun a b => ltKs a b) l) (p : l.Perm m) : l = sortK m := isort_of (swo_keys fun a => a) (fun a b => ltKs_tri) h p
def keyP (k : List Key) : PD := .tuple (k.map keyD)
def allKeys : List PD → Option (List (List Key))
  | [] => some []
  | d :: ds => match keyT? d, allKeys ds with
    | some k, some ks => some (k :: ks)
    | _, _ => none
def likeAll (ks : List (List Key)) : Bool := ks.all fun a => !a.isEmpty && ks.all fun b => likeK a b
theorem likeAll_ok {ks : List (List Key)} (h : likeAll ks = true) : (∀ a ∈ ks, a ≠ []) ∧ ∀ a ∈ ks, ∀ b ∈ ks, likeK a b = true := by
  unfold likeAll at h
  rw [List.all_eq_true] at h
  refine ⟨fun a ha e => ?_, fun a ha b hb => ?_⟩
  · have := h a ha
    rw [e] at this
    simp at this
  · have := h a ha
    rw [Bool.and_eq_true, List.all_eq_true] at this
    exact this.2 b hb
theorem keysOf_of : ∀ {ds : List PD} {ks : List Key}, keysOf ds = some ks → ds = ks.map keyD
  | [], ks, h => by cases h; rfl
  | d :: ds, ks, h => by
    unfold keysOf at h
    split at h
    · rename_i k ks' e1 e2
      cases h
      rw [keyD_of e1, keysOf_of e2]; rfl
    · cases h
theorem keyT_of {d : PD} {k : List Key} (h : keyT? d = some k) : d = keyP k := by
  unfold keyT? at h
  split at h
  · rw [keysOf_of h]; rfl
  · cases h
theorem allKeys_of : ∀ {ds : List PD} {ks : List (List Key)}, allKeys ds = some ks → ds = ks.map keyP
  | [], ks, h => by cases h; rfl
  | d :: ds, ks, h => by
    unfold allKeys at h
    split at h
    · rename_i k ks' e1 e2
      cases h
      rw [keyT_of e1, allKeys_of e2]; rfl
    · cases h
theorem keysOf_map : ∀ ks : List Key, keysOf (ks.map keyD) = some ks
  | [] => rfl
  | k :: ks => by
    rw [List.map_cons]
    unfold keysOf
    rw [keyOf_keyD, keysOf_map ks]
theorem keyT_keyP (k : List Key) : keyT? (keyP k) = some k := keysOf_map k
theorem allKeys_map : ∀ ks : List (List Key), allKeys (ks.map keyP) = some ks
  | [] => rfl
  | k :: ks => by
    rw [List.map_cons]
    unfold allKeys
    rw [keyT_keyP, allKeys_map ks]
def sortedD : List PD → R PD
  | [.list ds] => match asInts ds with
    | some ns => .ok (.list ((sortI ns).map PyData.int))
    | none => match allKeys ds with
      | some ks => if likeAll ks = true then .ok (.list ((sortK ks).map keyP)) else .bad
      | none => .bad
  | _ => .bad
def rSort2 (K : PySem.W.Frag) : List V → Hp → VK → Prop := fun vs H Q => rSortedI K vs H Q ∨ rSortedK K vs H Q
theorem cr_sort2 {X : Cx} : CallR X (.builtin "sorted") (rSort2 X.K) := fun pins s σ H vs us Q I r h => h.elim (cr_sortedI pins s σ H vs us Q I r) (cr_sortedK pins s σ H vs us Q I r)
section
variable {K : PySem.W.Frag} {W : WX}
def backK : V → Key
  | .int i => .inl i
  | .str x => .inr x
  | _ => .inl 0
theorem backK_kV (k : Key) : backK (kV k) = k := by cases k <;> rfl
def keysAt (H : Hp) : V → List Key
  | .ref t => match H t with
    | some (.tup vs) => vs.map backK
    | _ => []
  | _ => []
theorem keysAt_of {H : Hp} {t : Addr} {k : List Key} (h : H t = some (.tup (k.map kV))) : keysAt H (.ref t) = k := by
  have e : keysAt H (.ref t) = (match H t with | some (.tup vs) => vs.map backK | _ => []) := rfl
  rw [e, h]
  show (k.map kV).map backK = k
  rw [List.map_map]
  have : (backK ∘ kV) = id := funext backK_kV
  rw [this, List.map_id]
theorem dp_keys {H : Hp} : ∀ {vs : List V} {ks : List (List Key)}, DpAll K H vs (ks.map keyP) → (∀ v ∈ vs, ∃ t k, k ∈ ks ∧ v = .ref t ∧ H t = some (.tup (k.map kV))) ∧ vs.map (keysAt H) = ks
  | [], [], .nil => ⟨fun v h => by (cases h), rfl⟩
  | v :: vs, k :: ks, .cons r rs => by
    obtain ⟨a, b⟩ := dp_keys rs
    obtain ⟨t, e, ht⟩ := key_t r (keyT_keyP k)
    refine ⟨fun u hu => ?_, ?_⟩
    · rcases List.mem_cons.mp hu with z | z
      · rw [z]; exact ⟨t, k, List.mem_cons_self, e, ht⟩
      · obtain ⟨t', k', z1, z2⟩ := a u z
        exact ⟨t', k', List.mem_cons_of_mem _ z1, z2⟩
    · rw [List.map_cons, b, e, keysAt_of ht]
theorem dp_of_keys {F : Hp} : ∀ {bs : List Addr} {ks : List (List Key)}, Paired (fun k b => F b = some (.tup (k.map kV))) ks bs → DpAll K F (bs.map V.ref) (ks.map keyP)
  | _, _, .nil => .nil
  | _, _, .cons (a := k) h t => .cons (.tup h (by
      induction k with
      | nil => exact .nil
      | cons k ks ih => exact .cons (key_dp k) (dpk ks)) ) (dp_of_keys t)
where dpk : ∀ {F : Hp} (ks : List Key), DpAll K F (ks.map kV) (ks.map keyD)
  | _, [] => .nil
  | _, k :: ks => .cons (key_dp k) (dpk ks)
theorem perm_ref {H : Hp} : ∀ {ys : List V}, (∀ v ∈ ys, ∃ t k, v = V.ref t ∧ H t = some (.tup (List.map kV k))) → ∃ bs : List Addr, ys = bs.map V.ref ∧ Paired (fun k b => H b = some (.tup (k.map kV))) (ys.map (keysAt H)) bs
  | [], _ => ⟨[], rfl, .nil⟩
  | y :: ys, h => by
    obtain ⟨bs, e, p⟩ := perm_ref fun v hv => h v (List.mem_cons_of_mem _ hv)
    obtain ⟨t, k, e2, ht⟩ := h y List.mem_cons_self
    refine ⟨t :: bs, by rw [e2, e]; rfl, .cons ?_ p⟩
    show H t = some (.tup (List.map kV (keysAt H y)))
    rw [e2, keysAt_of ht]; exact ht
theorem rco_sorted : RCo K (rSort2 K) sortedD := fun W σ F H vs ds Q s rs q => by
  unfold sortedD at q
  split at q
  · obtain ⟨v, rfl, rv⟩ := rs.one
    obtain ⟨p, us, rfl, s1, r1⟩ := rv.list s
    split at q
    · rename_i ns e
      have ed := asInts_ok e
      subst ed
      have eu := r1.of_ints
      subst eu
      refine .inl ⟨p, ns, rfl, .inl s1, fun ns' D hp hs hD => ?_⟩
      have : ns' = sortI ns := isort_of swo_I tri_I (hs.imp fun {a b} h => by simp only [ltI, decide_eq_false_iff_not]; omega) hp
      rw [this]
      exact q F _ (Ext.own s hD) D hD (s.free hD) ⟨_, upd_same, DpAll.ints⟩
    · split at q
      · rename_i ks e
        have ed := allKeys_of e
        subst ed
        split at q
        · rename_i hl
          obtain ⟨l1, l2⟩ := likeAll_ok hl
          have rH := r1.mono s
          obtain ⟨a1, a2⟩ := dp_keys rH
          refine .inr ⟨p, us, keysAt H, rfl, .inl s1, fun x hx => ?_, fun x hx y hy => ?_, fun ys D h1 h2 hD => ?_⟩
          · obtain ⟨t, k, hk, e2, ht⟩ := a1 x hx
            rw [e2, keysAt_of ht]
            exact ⟨l1 k hk, t, rfl, ht⟩
          · obtain ⟨t, k, hk, e2, ht⟩ := a1 x hx
            obtain ⟨t', k', hk', e2', ht'⟩ := a1 y hy
            rw [e2, e2', keysAt_of ht, keysAt_of ht']
            exact l2 k hk k' hk'
          · obtain ⟨bs, eb, pb⟩ := perm_ref (H := H) (ys := ys) fun v hv => by
              obtain ⟨t, k, _, e2, ht⟩ := a1 v (h2.mem_iff.mp hv)
              exact ⟨t, k, e2, ht⟩
            have ek : ys.map (keysAt H) = sortK ks := sortK_of (SrtO.srtd_map h1) (by rw [← a2]; exact h2.map _)
            rw [ek] at pb
            subst eb
            refine q _ _ (Ext.tups s (Ext.own s hD).h) D hD (frz_none (s.free hD) upd_same nt_lst) ⟨_, upd_same, dp_of_keys ?_⟩
            have up : ∀ {k : List Key} {b : Addr}, H b = some (.tup (k.map kV)) → frzF F (upd H D (.lst (bs.map V.ref))) [] b = some (.tup (k.map kV)) := fun {k b} hb =>
              frz_keep.tup (by rw [upd_ne (ne_of_none hb hD)]; exact hb)
            clear ek h1 h2
            generalize sortK ks = kz at pb
            generalize frzF F (upd H D (.lst (bs.map V.ref))) [] = G at up
            induction pb with
            | nil => exact .nil
            | cons h _ ih => exact .cons (up h) ih
        · exact q.elim
      · exact q.elim
  · exact q.elim
def oSortT (i : Nat) : Rho → R PD := fun ρ => (tAt ρ i).bind fun kvs => if likeAll (kvs.map (·.1)) = true then .ok (.list ((sortK (kvs.map (·.1))).map keyP)) else .bad
end
end DL
namespace DL
open PySem PySem.Spec PyProof.Rows L2
section
variable {K : PySem.W.Frag} {W : WX} {te tf : TE} {g gi gf : Rho → R PD}
def pairKs : List (PD × PD) → Option (List (Key × Key))
  | [] => some []
  | p :: r => match keyOf p.1, keyOf p.2, pairKs r with
    | some a, some b, some l => some ((a, b) :: l)
    | _, _, _ => none
def oSortIt (i : Nat) : Rho → R PD := fun ρ => match ρ[i]? with
  | some (some (.t (.own (.dict kvs)))) => (match pairKs kvs with
    | some l => if likeAll (l.map pr2) = true then .ok (.list ((sortK (l.map pr2)).map keyP)) else .bad
    | none => .bad)
  | _ => .bad
def extS (ρ : Rho) (i : Nat) (ds : List PD) : PD → SR
  | .list es => if ds.length + es.length ≤ sizeLine then .nx (ρ.set i (some (.o (.list (ds ++ es))))) else .bad
  | _ => .bad
def sExtend (i : Nat) (g : Rho → R PD) : Rho → SR := fun ρ => ownL ρ i fun ds => SR.of (g ρ) fun x => extS ρ i ds x
def insS (ρ : Rho) (i : Nat) (ds : List PD) (y : PD) : PD → SR
  | .int n => if ds.length < sizeLine ∧ 0 ≤ n ∧ n < 2 ^ 63 then .nx (ρ.set i (some (.o (.list (ds.take n.toNat ++ [y] ++ ds.drop n.toNat))))) else .bad
  | _ => .bad
def sInsertD (i : Nat) (gi g : Rho → R PD) : Rho → SR := fun ρ => ownL ρ i fun ds => SR.of (gi ρ) fun n => SR.of (g ρ) fun y => insS ρ i ds y n
theorem ds_insertD (i : Nat) {ti : TE} (hi : TDe K W ti gi) (h : TDe K W te g) : TDS K W (tDrop (tBM K "list" (fun x vs H Q => ∃ (l : Addr) (xs : List V) (i : Int) (y : V), x = .ref l ∧ vs = [.int i, y] ∧ H l = some (.lst xs) ∧ xs.length < sizeLine ∧ 0 ≤ i ∧ i < 2 ^ 63 ∧
    Q .non (upd H l (.lst (xs.take i.toNat ++ [y] ++ xs.drop i.toNat)))) (tVar i) (tCons ti (tCons te tNil)))) (sInsertD i gi g) := fun F0 H0 F H σ ρ D S q => by
  obtain ⟨p, ds, vs, h1, h2, h3, h4, k⟩ := ownL_k S q
  refine ⟨.ref p, h2, .inl ⟨rfl, vs, SqL.of h3⟩, hi F0 H0 F H σ ρ _ S (k.of S.ext fun n F1 H1 e1 k0 u ru => ?_)⟩
  have S1 := S.go e1
  refine h F0 H0 F1 H1 σ ρ _ S1 (FinS.of S1.ext k0 fun x F2 H2 e2 k v rv => ?_)
  clear k0
  unfold insS at k
  split at k
  · rename_i n
    split at k
    · rename_i hl
      have ru := (Rp.int (F := F1) (H := H1) (.inl ru))
      refine ⟨p, vs, n, v, rfl, by rw [ru], e2.h _ _ (e1.h p _ h3), by rw [h4.length]; exact hl.1, hl.2.1, hl.2.2, ?_⟩
      have e12 := e1.trans e2
      exact k σ F2 _ ((S.go e12).mut h1 h2 ⟨_, upd_same, (((h4.mono e12.f).take _).append (.cons rv .nil)).append ((h4.mono e12.f).drop _)⟩)
    · exact k.elim
  · exact k.elim
def idxD (a b : PD) : R PD := match a with
  | .list ds => if flatP b = true ∧ ds.all flatP = true then (match ds.findIdx? (fun d => eqF d b) with | some j => .ok (.int (j : Nat)) | none => .bad) else .bad
  | _ => .bad
def listOf (a : PD) (k : R PD) : R PD := match a with
  | .list _ => k
  | _ => .bad
def eIndex (g gf : Rho → R PD) : Rho → R PD := fun ρ => (g ρ).bind fun a => listOf a ((gf ρ).bind fun b => idxD a b)
def repL : PD → PD → R PD
  | .list ds, .int k => if -(2 ^ 63) ≤ k ∧ k < 2 ^ 63 ∧ ds.length * k.toNat ≤ sizeLine then .ok (.list (List.replicate k.toNat ds).flatten) else .bad
  | _, _ => .bad
variable {ta tb : TE} {ga gb : Rho → R PD}
def rgOk (a b : Int) : Bool := decide (-(2 ^ 62) ≤ a) && decide (a < 2 ^ 62) && decide (-(2 ^ 62) ≤ b) && decide (b < 2 ^ 62) && decide ((b - a).toNat ≤ 2 ^ 24)
def rgT : PD → PD → R PD
  | .int a, .int b => if rgOk a b = true then .ok (.tuple (rngD a (b - a).toNat)) else .bad
  | _, _ => .bad
end
end DL
namespace DL
section
open PySem PySem.Spec PyProof.Rows L2 RT
variable {prog : Program} {w : World} {A : Around} {E : Value → Shared → Prop} {s : Shared}
end
section
open PySem PySem.Spec PyProof.Rows L2 RT
variable {X : Cx}
end
section
open PySem PySem.Spec PyProof.Rows L2
variable {K : PySem.W.Frag} {W : WX} {te : TE} {g : Rho → R PD}
def oListRev (g : Rho → R PD) : Rho → R PD := fun ρ => (g ρ).bind fun a => match a with
  | .list l => .ok (.list l.reverse)
  | _ => .bad
def iRvR1 (ga : Rho → R PD) : Rho → R (List PD) := fun ρ => (ga ρ).bind fun a => match a with
  | .int j => if small62 j = true then .ok (rngD 0 j.toNat).reverse else .bad
  | _ => .bad
def cutL (H : Hp) (fp : List Addr) : Hp := fun p => if p ∈ fp then none else H p
theorem cutL_in {H : Hp} {fp : List Addr} {p : Addr} (h : p ∈ fp) : cutL H fp p = none := if_pos h
theorem cutL_out {H : Hp} {fp : List Addr} {p : Addr} (h : p ∉ fp) : cutL H fp p = H p := if_neg h
theorem cutL_same {H : Hp} {fp : List Addr} : Same (cutL H fp) H := fun p u e => by
  by_cases h : p ∈ fp
  · rw [cutL_in h] at e; cases e
  · rw [cutL_out h] at e; exact e
theorem StF.given {F0 H0 F H F1 H1 F2 H2 : Hp} {σ : L2.St} {ρ : Rho} {φ : Nat → List Addr} {vs : List Nat} {fp : List Addr} (S : StF K F0 H0 F H σ ρ φ) (e1 : Ext F H F1 H1) (hp : ∀ p ∈ fp, F1 p = none ∧ (H p = none ∨ ∃ i ∈ vs, p ∈ φ i)) (hnt : ∀ p ∈ fp, ∃ o, H1 p = some o ∧ ¬ tupO o) (e2 : Ext F1 (cutL H1 fp) F2 H2) :
    StF K F0 H0 F2 H2 σ (killD ρ vs) (phis φ vs) := by
  have S1 := (S.go e1).drop (is := vs)
  have off : ∀ j p, p ∈ phis φ vs j → p ∉ fp := fun j p h1 h2 => by
    obtain ⟨n1, n2⟩ := phis_mem h1
    rcases (hp p h2).2 with z | ⟨i', hi, z⟩
    · obtain ⟨_, _, o, y, _⟩ := S.fre j p n2
      rw [z] at y; cases y
    · have := S.dis i' j p z n2
      subst this
      exact n1 hi
  have h0 : ∀ p ∈ fp, H0 p = none := fun p h => by
    rcases (hp p h).2 with z | ⟨i, _, z⟩
    · exact S.ext.h.free z
    · exact (S.fre i p z).1
  have ex : Ext F0 H0 F2 H2 := by
    refine ⟨S1.ext.f.trans e2.f, e2.g, fun p u e => e2.h p u ?_, fun p hq => ?_⟩
    · rw [cutL_out (fun z => by rw [h0 p z] at e; cases e)]; exact S1.ext.h p u e
    · rcases e2.n p hq with z | z | ⟨o, z, t⟩
      · exact S1.ext.n p z
      · by_cases hin : p ∈ fp
        · exact .inr (.inl (h0 p hin))
        · rw [cutL_out hin] at z
          exact .inr (.inl (S1.ext.h.free z))
      · have z := cutL_same _ _ z
        cases e : H0 p with
        | none => exact .inr (.inl rfl)
        | some u =>
          have := S1.ext.h p u e
          rw [z] at this
          cases this
          exact .inr (.inr ⟨_, rfl, t⟩)
  refine ⟨ex, S1.len, fun i x e => ?_, fun i x e => ?_, fun i p h => ?_, S1.nod, S1.dis, fun i x e => let ⟨p, a, b⟩ := S1.lck i x e; ⟨p, a, b.mono e2.f⟩, fun i x e => let ⟨v, fq, a, b⟩ := S1.bor i x e; ⟨v, fq, a, b.keep e2.f (KeepOn.same (Same.refl H0))⟩⟩
  · obtain ⟨v, a, b⟩ := S1.dat i x e
    exact ⟨v, a, b.mono e2.f⟩
  · obtain ⟨v, a, b⟩ := S1.tre i x e
    refine ⟨v, a, b.keep e2.f fun p o ho hc => e2.h p o ?_⟩
    rw [cutL_out]
    · exact ho
    · intro z
      rcases hc with hc | hc
      · exact off i p hc z
      · obtain ⟨o', ho', nt⟩ := hnt p z
        rw [ho] at ho'; cases ho'; exact nt hc
  · obtain ⟨a, b, o, c, d⟩ := S1.fre i p h
    have c' : cutL H1 fp p = some o := by rw [cutL_out (off i p h)]; exact c
    exact ⟨a, e2.keep b c' d, o, e2.h p o c', d⟩
variable {tr : TA} {gr : Rho → R (List Tv)} {vs : List Nat} {n : Nat} {f : List Tv → FR}
def callT (n : Nat) (f : List Tv → FR) (gr : Rho → R (List Tv)) (k : Tv → SR) : Rho → SR := fun ρ => SR.of (gr ρ) fun ts => if ts.length = n then (match f ts with
  | .rt (.d x) => k (.fr x)
  | .rt (.t x) => k x
  | .rt (.l _) => .bad
  | .rt (.b _) => .bad
  | .exc c => .exc c
  | .bad => .bad) else .bad
def sCallT (i : Nat) (vs : List Nat) (n : Nat) (f : List Tv → FR) (gr : Rho → R (List Tv)) : Rho → SR := fun ρ => callT n f gr (fun x => .nx ((killD ρ vs).set i (some (slOf x)))) ρ
def sRetT (n : Nat) (f : List Tv → FR) (gr : Rho → R (List Tv)) : Rho → SR := callT n f gr fun x => .rt (.t x)
def preK (is : List Nat) (s : Rho → SR) : Rho → SR := fun ρ => s (is.foldl (fun ρ i => ρ.set i none) ρ)
theorem ds_preK {ts : TS} {s : Rho → SR} (is : List Nat) (h : TDS K W ts s) : TDS K W ts (preK is s) := fun F0 H0 F H σ ρ D S q => h F0 H0 F H σ _ D S.kills q
end
end DL
namespace DL
open PySem PySem.Spec PyProof.Rows L2
section
variable {K : PySem.W.Frag} {W : WX}
def Tv.kids : Tv → List Tv
  | .tup ts => ts
  | .lst ts => ts
  | .obj _ _ ts => ts
  | .dct _ ts => ts
  | _ => []
def Tv.withKids : Tv → List Tv → Tv
  | .tup _, us => .tup us
  | .lst _, us => .lst us
  | .obj c ns _, us => .obj c ns us
  | .dct ks _, us => .dct ks us
  | t, _ => t
def Tv.isSeq : Tv → Bool
  | .tup _ => true
  | .lst _ => true
  | _ => false
def Tv.at : List Nat → Tv → Option Tv
  | [], t => some t
  | k :: ks, t => match t.kids[k]? with
    | some u => Tv.at ks u
    | none => none
def Tv.setAt : List Nat → Tv → Tv → Tv
  | [], _, u => u
  | k :: ks, t, u => match t.kids[k]? with
    | some t1 => t.withKids (t.kids.set k (Tv.setAt ks t1 u))
    | none => t
def kidsAt (H : Hp) (a : Addr) (xs : List V) : Prop := H a = some (.tup xs) ∨ H a = some (.lst xs) ∨ (∃ C dx fs, H a = some (.ins C dx fs) ∧ xs = fs.map (·.2)) ∨ ∃ kvs, H a = some (.dK kvs) ∧ xs = kvs.map (·.2)
theorem kidsAt.mono {H H' : Hp} {a : Addr} {xs : List V} (e : Same H H') : kidsAt H a xs → kidsAt H' a xs
  | .inl h => .inl (e _ _ h)
  | .inr (.inl h) => .inr (.inl (e _ _ h))
  | .inr (.inr (.inl ⟨C, dx, fs, h, k⟩)) => .inr (.inr (.inl ⟨C, dx, fs, e _ _ h, k⟩))
  | .inr (.inr (.inr ⟨kvs, h, k⟩)) => .inr (.inr (.inr ⟨kvs, e _ _ h, k⟩))
theorem kidsAt.det {H : Hp} {a : Addr} {xs ys : List V} (h : kidsAt H a xs) (g : kidsAt H a ys) : xs = ys := by
  rcases h with h | h | ⟨C, dx, fs, h, k⟩ | ⟨kvs, h, k⟩ <;> rcases g with g | g | ⟨C', dx', fs', g, k'⟩ | ⟨kvs', g, k'⟩ <;> (rw [h] at g; cases g) <;> first | rfl | (rw [k, k'])
def vAt (H : Hp) : V → List Nat → V → Prop
  | v, [], u => v = u
  | v, k :: ks, u => ∃ a xs w, v = .ref a ∧ kidsAt H a xs ∧ xs[k]? = some w ∧ vAt H w ks u
theorem vAt.mono {H H' : Hp} (e : Same H H') : ∀ {ks : List Nat} {v u : V}, vAt H v ks u → vAt H' v ks u
  | [], _, _, h => h
  | _ :: _, _, _, ⟨a, xs, w, h1, h2, h3, h4⟩ => ⟨a, xs, w, h1, h2.mono e, h3, h4.mono e⟩
theorem vAt.det {H : Hp} : ∀ {ks : List Nat} {v u u' : V}, vAt H v ks u → vAt H v ks u' → u = u'
  | [], _, _, _, h, h' => h.symm.trans h'
  | _ :: _, _, _, _, ⟨a, xs, w, h1, h2, h3, h4⟩, ⟨a', xs', w', g1, g2, g3, g4⟩ => by
    rw [h1] at g1; cases g1
    have e : xs = xs' := h2.det g2
    subst e
    rw [h3] at g3; cases g3
    exact vAt.det h4 g4
theorem vAt.snoc {H : Hp} {k : Nat} {u : V} : ∀ {ks : List Nat} {v : V}, vAt H v (ks ++ [k]) u → ∃ u0, vAt H v ks u0 ∧ vAt H u0 [k] u
  | [], v, h => ⟨v, rfl, h⟩
  | _ :: _, _, ⟨a, xs, w, h1, h2, h3, h4⟩ => by
    obtain ⟨u0, g1, g2⟩ := h4.snoc
    exact ⟨u0, ⟨a, xs, w, h1, h2, h3, g1⟩, g2⟩
theorem vAt.one {H : Hp} {u0 u : V} {k : Nat} {a : Addr} {xs : List V} : ∀ {ks : List Nat} {v : V}, vAt H v ks u0 → u0 = .ref a → kidsAt H a xs → xs[k]? = some u → vAt H v (ks ++ [k]) u
  | [], v, h, e, h1, h2 => ⟨a, xs, u, (show v = u0 from h).trans e, h1, h2, rfl⟩
  | _ :: _, _, ⟨b, ys, w, g1, g2, g3, g4⟩, e, h1, h2 => ⟨b, ys, w, g1, g2, g3, g4.one e h1 h2⟩
def AgreeOff (fq : List Addr) (H H' : Hp) : Prop := ∀ p o, H p = some o → p ∉ fq → H' p = some o
theorem zip_snd {α β : Type} : ∀ {ns : List α} {us : List β}, ns.length = us.length → (ns.zip us).map (·.2) = us
  | [], [], _ => rfl
  | _ :: ns, u :: us, h => by
    show u :: (ns.zip us).map (·.2) = _
    rw [zip_snd (by simpa using h)]
theorem tvAll_at {F H : Hp} : ∀ {fp : List Addr} {vs : List V} {ts : List Tv} {k : Nat} {t : Tv}, TvAll K F H fp vs ts → fp.Nodup → ts[k]? = some t → ∃ v fq, vs[k]? = some v ∧ TvAt K F H fq v t ∧ fq.Nodup ∧ (∀ p ∈ fq, p ∈ fp) ∧
    ∀ (F' H' : Hp) (u : Tv) (fr fz : List Addr), Same F F' → (∀ p ∈ fr, p ∈ fq) → AgreeOff fr H H' → fz.Nodup → (∀ p ∈ fz, p ∈ fq ∨ p ∉ fp) → TvAt K F' H' fz v u → ∃ fp', TvAll K F' H' fp' vs (ts.set k u) ∧ fp'.Nodup ∧ (∀ p ∈ fp', (p ∈ fp ∧ p ∉ fq) ∨ p ∈ fz)
  | _, _, _, _, _, .nil, _, e => by simp at e
  | _, _, _, 0, t, .cons (fp := fp) (fq := fq) h r, nd, e => by
    cases e
    obtain ⟨n1, n2, n3⟩ := List.nodup_append.mp nd
    refine ⟨_, fp, rfl, h, n1, fun p hp => List.mem_append_left _ hp, fun F' H' u fr fz e hs ag nz hz hu => ⟨fz ++ fq, .cons hu (r.keep e fun p o ho hc => ag p o ho fun hin => ?_), List.nodup_append.mpr ⟨nz, n2, fun p h1 q h2 z => ?_⟩, fun p hp => ?_⟩⟩
    · have hin := hs p hin
      rcases hc with hc | hc
      · exact n3 p hin p hc rfl
      · obtain ⟨o', ho', nt⟩ := h.nt p hin
        rw [ho] at ho'; cases ho'; exact nt hc
    · subst z
      rcases hz p h1 with y | y
      · exact n3 p y p h2 rfl
      · exact y (List.mem_append_right _ h2)
    · rcases List.mem_append.mp hp with y | y
      · exact .inr y
      · exact .inl ⟨List.mem_append_right _ y, fun z => n3 p z p y rfl⟩
  | _, _, _, k + 1, t, .cons (fp := fp) (fq := fq) h r, nd, e => by
    obtain ⟨n1, n2, n3⟩ := List.nodup_append.mp nd
    obtain ⟨v, fy, a1, a2, a3, a4, a5⟩ := tvAll_at r n2 (show _ = some t from e)
    refine ⟨v, fy, a1, a2, a3, fun p hp => List.mem_append_right _ (a4 p hp), fun F' H' u fr fz e hs ag nz hz hu => ?_⟩
    obtain ⟨fp', b1, b2, b3⟩ := a5 F' H' u fr fz e hs ag nz (fun p hp => (hz p hp).imp id fun y z => y (List.mem_append_right _ z)) hu
    refine ⟨fp ++ fp', .cons (h.keep e fun p o ho hc => ag p o ho fun hin => ?_) b1, List.nodup_append.mpr ⟨n1, b2, fun p h1 q h2 z => ?_⟩, fun p hp => ?_⟩
    · have hin := a4 p (hs p hin)
      rcases hc with hc | hc
      · exact n3 p hc p hin rfl
      · obtain ⟨o', ho', nt⟩ := r.nt p hin
        rw [ho] at ho'; cases ho'; exact nt hc
    · subst z
      rcases b3 p h2 with y | y
      · exact n3 p h1 p y.1 rfl
      · rcases hz p y with y | y
        · exact n3 p h1 p (a4 p y) rfl
        · exact y (List.mem_append_left _ h1)
    · rcases List.mem_append.mp hp with y | y
      · exact .inl ⟨List.mem_append_left _ y, fun z => n3 p y p (a4 p z) rfl⟩
      · exact (b3 p y).imp (fun z => ⟨List.mem_append_right _ z.1, z.2⟩) id
theorem tvAt_at {F H : Hp} : ∀ {ks : List Nat} {fp : List Addr} {v : V} {t t' : Tv}, TvAt K F H fp v t → fp.Nodup → t.at ks = some t' → ∃ u fq, vAt H v ks u ∧ TvAt K F H fq u t' ∧ fq.Nodup ∧ (∀ p ∈ fq, p ∈ fp) ∧
    ∀ (F' H' : Hp) (t'' : Tv) (fr fz : List Addr), Same F F' → (∀ p ∈ fr, p ∈ fq) → AgreeOff fr H H' → fz.Nodup → (∀ p ∈ fz, p ∈ fq ∨ p ∉ fp) → TvAt K F' H' fz u t'' → ∃ fp', TvAt K F' H' fp' v (t.setAt ks t'') ∧ fp'.Nodup ∧ (∀ p ∈ fp', (p ∈ fp ∧ p ∉ fq) ∨ p ∈ fz)
  | [], fp, v, t, t', h, nd, e => by
    unfold Tv.at at e
    cases e
    exact ⟨v, fp, rfl, h, nd, fun _ hp => hp, fun F' H' t'' fr fz _ _ _ nz _ hu => ⟨fz, by unfold Tv.setAt; exact hu, nz, fun _ hp => .inr hp⟩⟩
  | k :: ks, fp, v, t, t', h, nd, e => by
    have none1 : ∀ {x : Tv}, x.kids = [] → x.at (k :: ks) = some t' → False := fun {x} h1 h2 => by
      unfold Tv.at at h2
      rw [h1] at h2
      cases h2
    cases h with
    | fr _ => exact (none1 rfl e).elim
    | own _ => exact (none1 rfl e).elim
    | dT _ _ => exact (none1 rfl e).elim
    | any => exact (none1 rfl e).elim
    | tup s r =>
      rename_i p us ts
      unfold Tv.at at e
      cases ek : ts[k]? with
      | none => rw [show (Tv.tup ts).kids = ts from rfl, ek] at e; cases e
      | some t1 =>
        rw [show (Tv.tup ts).kids = ts from rfl, ek] at e
        obtain ⟨v1, f1, b1, b2, b3, b4, b5⟩ := tvAll_at r nd ek
        obtain ⟨u, fq, c1, c2, c0, c3, c4⟩ := tvAt_at b2 b3 e
        refine ⟨u, fq, ⟨p, us, v1, rfl, .inl s, b1, c1⟩, c2, c0, fun q hq => b4 q (c3 q hq), fun F' H' t'' fr fz e' hs ag nz hz hu => ?_⟩
        have e2 : (Tv.tup ts).setAt (k :: ks) t'' = .tup (ts.set k (t1.setAt ks t'')) := by
          show (match ts[k]? with | some t => Tv.tup (ts.set k (Tv.setAt ks t t'')) | none => .tup ts) = _
          rw [ek]
        rw [e2]
        obtain ⟨f2, d1, d2, d3⟩ := c4 F' H' t'' fr fz e' hs ag nz (fun q hq => (hz q hq).imp id fun y z => y (b4 q z)) hu
        obtain ⟨f3, g1, g2, g3⟩ := b5 F' H' _ fr f2 e' (fun q hq => c3 q (hs q hq)) ag d2 (fun q hq => by
          rcases d3 q hq with y | y
          · exact .inl y.1
          · rcases hz q y with y | y
            · exact .inl (c3 q y)
            · exact .inr y) d1
        refine ⟨f3, .tup (ag _ _ s fun hin => ?_) g1, g2, fun q hq => ?_⟩
        · obtain ⟨o', ho', nt⟩ := c2.nt p (hs p hin)
          rw [s] at ho'; cases ho'; exact nt (.inl (.inl ⟨_, rfl⟩))
        · rcases g3 q hq with y | y
          · exact .inl ⟨y.1, fun z => y.2 (c3 q z)⟩
          · exact (d3 q y).imp (fun z => ⟨b4 q z.1, z.2⟩) id
    | lst s r =>
      rename_i p us fp ts
      obtain ⟨n1, n2⟩ := List.nodup_cons.mp nd
      unfold Tv.at at e
      cases ek : ts[k]? with
      | none => rw [show (Tv.lst ts).kids = ts from rfl, ek] at e; cases e
      | some t1 =>
        rw [show (Tv.lst ts).kids = ts from rfl, ek] at e
        obtain ⟨v1, f1, b1, b2, b3, b4, b5⟩ := tvAll_at r n2 ek
        obtain ⟨u, fq, c1, c2, c0, c3, c4⟩ := tvAt_at b2 b3 e
        refine ⟨u, fq, ⟨p, us, v1, rfl, .inr (.inl s), b1, c1⟩, c2, c0, fun q hq => List.mem_cons_of_mem _ (b4 q (c3 q hq)), fun F' H' t'' fr fz e' hs ag nz hz hu => ?_⟩
        have e2 : (Tv.lst ts).setAt (k :: ks) t'' = .lst (ts.set k (t1.setAt ks t'')) := by
          show (match ts[k]? with | some t => Tv.lst (ts.set k (Tv.setAt ks t t'')) | none => .lst ts) = _
          rw [ek]
        rw [e2]
        obtain ⟨f2, d1, d2, d3⟩ := c4 F' H' t'' fr fz e' hs ag nz (fun q hq => (hz q hq).imp id fun y z => y (List.mem_cons_of_mem _ (b4 q z))) hu
        obtain ⟨f3, g1, g2, g3⟩ := b5 F' H' _ fr f2 e' (fun q hq => c3 q (hs q hq)) ag d2 (fun q hq => by
          rcases d3 q hq with y | y
          · exact .inl y.1
          · rcases hz q y with y | y
            · exact .inl (c3 q y)
            · exact .inr fun z => y (List.mem_cons_of_mem _ z)) d1
        have pf2 : p ∉ f3 := fun z => by
          rcases g3 p z with y | y
          · exact n1 y.1
          · rcases d3 p y with y | y
            · exact n1 (b4 p y.1)
            · rcases hz p y with y | y
              · exact n1 (b4 p (c3 p y))
              · exact y List.mem_cons_self
        refine ⟨p :: f3, .lst (ag _ _ s fun hin => n1 (b4 p (c3 p (hs p hin)))) g1, List.nodup_cons.mpr ⟨pf2, g2⟩, fun q hq => ?_⟩
        rcases List.mem_cons.mp hq with y | hq
        · subst y; exact .inl ⟨List.mem_cons_self, fun z => n1 (b4 _ (c3 _ z))⟩
        · rcases g3 q hq with y | y
          · exact .inl ⟨List.mem_cons_of_mem _ y.1, fun z => y.2 (c3 q z)⟩
          · exact (d3 q y).imp (fun z => ⟨List.mem_cons_of_mem _ (b4 q z.1), z.2⟩) id
    | dct s l r =>
      rename_i p kys us fp ts
      obtain ⟨n1, n2⟩ := List.nodup_cons.mp nd
      unfold Tv.at at e
      cases ek : ts[k]? with
      | none => rw [show (Tv.dct kys ts).kids = ts from rfl, ek] at e; cases e
      | some t1 =>
        rw [show (Tv.dct kys ts).kids = ts from rfl, ek] at e
        obtain ⟨v1, f1, b1, b2, b3, b4, b5⟩ := tvAll_at r n2 ek
        obtain ⟨u, fq, c1, c2, c0, c3, c4⟩ := tvAt_at b2 b3 e
        refine ⟨u, fq, ⟨p, us, v1, rfl, .inr (.inr (.inr ⟨_, s, (zip_snd l).symm⟩)), b1, c1⟩, c2, c0, fun q hq => List.mem_cons_of_mem _ (b4 q (c3 q hq)), fun F' H' t'' fr fz e' hs ag nz hz hu => ?_⟩
        have e2 : (Tv.dct kys ts).setAt (k :: ks) t'' = .dct kys (ts.set k (t1.setAt ks t'')) := by
          show (match ts[k]? with | some t => Tv.dct kys (ts.set k (Tv.setAt ks t t'')) | none => .dct kys ts) = _
          rw [ek]
        rw [e2]
        obtain ⟨f2, d1, d2, d3⟩ := c4 F' H' t'' fr fz e' hs ag nz (fun q hq => (hz q hq).imp id fun y z => y (List.mem_cons_of_mem _ (b4 q z))) hu
        obtain ⟨f3, g1, g2, g3⟩ := b5 F' H' _ fr f2 e' (fun q hq => c3 q (hs q hq)) ag d2 (fun q hq => by
          rcases d3 q hq with y | y
          · exact .inl y.1
          · rcases hz q y with y | y
            · exact .inl (c3 q y)
            · exact .inr fun z => y (List.mem_cons_of_mem _ z)) d1
        have pf2 : p ∉ f3 := fun z => by
          rcases g3 p z with y | y
          · exact n1 y.1
          · rcases d3 p y with y | y
            · exact n1 (b4 p y.1)
            · rcases hz p y with y | y
              · exact n1 (b4 p (c3 p y))
              · exact y List.mem_cons_self
        refine ⟨p :: f3, .dct (ag _ _ s fun hin => n1 (b4 p (c3 p (hs p hin)))) l g1, List.nodup_cons.mpr ⟨pf2, g2⟩, fun q hq => ?_⟩
        rcases List.mem_cons.mp hq with y | hq
        · subst y; exact .inl ⟨List.mem_cons_self, fun z => n1 (b4 _ (c3 _ z))⟩
        · rcases g3 q hq with y | y
          · exact .inl ⟨List.mem_cons_of_mem _ y.1, fun z => y.2 (c3 q z)⟩
          · exact (d3 q y).imp (fun z => ⟨List.mem_cons_of_mem _ (b4 q z.1), z.2⟩) id
    | obj s s' l r =>
      rename_i p dx c ns us fp ts
      obtain ⟨n1, n2⟩ := List.nodup_cons.mp nd
      obtain ⟨n3, n4⟩ := List.nodup_cons.mp n2
      unfold Tv.at at e
      cases ek : ts[k]? with
      | none => rw [show (Tv.obj c ns ts).kids = ts from rfl, ek] at e; cases e
      | some t1 =>
        rw [show (Tv.obj c ns ts).kids = ts from rfl, ek] at e
        obtain ⟨v1, f1, b1, b2, b3, b4, b5⟩ := tvAll_at r n4 ek
        obtain ⟨u, fq, c1, c2, c0, c3, c4⟩ := tvAt_at b2 b3 e
        have inf : ∀ q, q ∈ fp → q ∈ p :: dx :: fp := fun q hq => List.mem_cons_of_mem _ (List.mem_cons_of_mem _ hq)
        refine ⟨u, fq, ⟨p, us, v1, rfl, .inr (.inr (.inl ⟨_, _, _, s, (zip_snd l).symm⟩)), b1, c1⟩, c2, c0, fun q hq => inf q (b4 q (c3 q hq)), fun F' H' t'' fr fz e' hs ag nz hz hu => ?_⟩
        have e2 : (Tv.obj c ns ts).setAt (k :: ks) t'' = .obj c ns (ts.set k (t1.setAt ks t'')) := by
          show (match ts[k]? with | some t => Tv.obj c ns (ts.set k (Tv.setAt ks t t'')) | none => .obj c ns ts) = _
          rw [ek]
        rw [e2]
        obtain ⟨f2, d1, d2, d3⟩ := c4 F' H' t'' fr fz e' hs ag nz (fun q hq => (hz q hq).imp id fun y z => y (inf q (b4 q z))) hu
        obtain ⟨f3, g1, g2, g3⟩ := b5 F' H' _ fr f2 e' (fun q hq => c3 q (hs q hq)) ag d2 (fun q hq => by
          rcases d3 q hq with y | y
          · exact .inl y.1
          · rcases hz q y with y | y
            · exact .inl (c3 q y)
            · exact .inr fun z => y (inf q z)) d1
        have off : ∀ q, q ∉ fp → (q = p ∨ q = dx) → q ∉ f3 := fun q h1 h2 z => by
          rcases g3 q z with y | y
          · exact h1 y.1
          · rcases d3 q y with y | y
            · exact h1 (b4 q y.1)
            · rcases hz q y with y | y
              · exact h1 (b4 q (c3 q y))
              · exact y (by rcases h2 with h2 | h2 <;> subst h2 <;> simp)
        have np : p ∉ fp := fun z => n1 (List.mem_cons_of_mem _ z)
        have pf3 := off p np (.inl rfl)
        have df3 := off dx n3 (.inr rfl)
        have pd : p ≠ dx := fun z => n1 (by rw [z]; exact List.mem_cons_self)
        refine ⟨p :: dx :: f3, .obj (ag _ _ s fun hin => np (b4 p (c3 p (hs p hin)))) (ag _ _ s' fun hin => n3 (b4 dx (c3 dx (hs dx hin)))) l g1, List.nodup_cons.mpr ⟨fun z => ?_, List.nodup_cons.mpr ⟨df3, g2⟩⟩, fun q hq => ?_⟩
        · rcases List.mem_cons.mp z with z | z
          · exact pd z
          · exact pf3 z
        · rcases List.mem_cons.mp hq with y | hq
          · subst y; exact .inl ⟨List.mem_cons_self, fun z => np (b4 _ (c3 _ z))⟩
          · rcases List.mem_cons.mp hq with y | hq
            · subst y; exact .inl ⟨by simp, fun z => n3 (b4 _ (c3 _ z))⟩
            · rcases g3 q hq with y | y
              · exact .inl ⟨inf q y.1, fun z => y.2 (c3 q z)⟩
              · exact (d3 q y).imp (fun z => ⟨inf q (b4 q z.1), z.2⟩) id
end
end DL
namespace DL
open PySem PySem.Spec PyProof.Rows L2
section
variable {K : PySem.W.Frag} {W : WX} {te : TE} {g : Rho → R PD}
end
end DL
namespace DL
open PySem PySem.Spec PyProof.Rows L2
section
variable {K : PySem.W.Frag} {W : WX} {te : TE} {gm : Rho → R Tv} {vs : List Nat}
theorem StF.mutF {F0 H0 F H : Hp} {σ : L2.St} {ρ : Rho} {φ : Nat → List Addr} (S : StF K F0 H0 F H σ ρ φ) {q : Addr} {o u : HO} (h0 : H0 q = none) (hf : F q = none) (hu : H q = some u) (nu : ¬ tupO u) (hq : ∀ j, q ∉ φ j) : StF K F0 H0 F (upd H q o) σ ρ φ := by
  have keep : ∀ j, KeepOn (φ j) H (upd H q o) := fun j p u' e t => by
    by_cases z : p = q
    · subst z
      rcases t with t | t
      · exact absurd t (hq j)
      · rw [hu] at e; cases e; exact absurd t nu
    · rw [upd_ne z]; exact e
  refine ⟨⟨S.ext.f, fun r u' e => ?_, fun r u' e => ?_, S.ext.n⟩, S.len, S.dat, fun j z e => ?_, fun j p hp => ?_, S.nod, S.dis, S.lck, S.bor⟩
  · rw [upd_ne (ne_of_none e hf)]; exact S.ext.g r u' e
  · rw [upd_ne (ne_of_none e h0)]; exact S.ext.h r u' e
  · obtain ⟨v, a, b⟩ := S.tre j z e
    exact ⟨v, a, b.keep (Same.refl F) (keep j)⟩
  · obtain ⟨x1, x2, u', x3, x4⟩ := S.fre j p hp
    exact ⟨x1, x2, u', by rw [upd_ne (fun z => hq j (by rw [← z]; exact hp))]; exact x3, x4⟩
theorem TvAll.app {F H : Hp} : ∀ {fp : List Addr} {us : List V} {ts : List Tv} {fq : List Addr} {ws : List V} {xs : List Tv}, TvAll K F H fp us ts → TvAll K F H fq ws xs → TvAll K F H (fp ++ fq) (us ++ ws) (ts ++ xs)
  | _, _, _, _, _, _, .nil, b => b
  | _, _, _, _, _, _, .cons (fp := fp) (fq := fq) h t, b => by
    rw [List.append_assoc]
    exact .cons h (TvAll.app t b)
theorem set_same {α : Type} : ∀ {l : List α} {i : Nat} {x : α}, l[i]? = some x → l.set i x = l
  | [], _, _, h => by simp at h
  | y :: l, 0, x, h => by
    have : y = x := by simpa using h
    rw [this]; rfl
  | y :: l, i + 1, x, h => by
    have h : l[i]? = some x := by simpa using h
    show y :: l.set i x = _
    rw [set_same h]
theorem grow_ok {F0 H0 F H F1 H1 : Hp} {σ : L2.St} {ρ : Rho} {φ : Nat → List Addr} (S : StF K F0 H0 F H σ ρ φ) {i : Nat} {ts xs : List Tv} {v : V} (hi : ρ[i]? = some (some (.t (.lst ts)))) (hv : σ[i]? = some (some v)) (hni : i ∉ vs)
    (e1 : Ext F H F1 H1) {fq : List Addr} {ws : List V} (tl : TvAll K F1 H1 fq ws xs) (nd : fq.Nodup) (hp : ∀ p ∈ fq, F1 p = none ∧ (H p = none ∨ ∃ j ∈ vs, p ∈ φ j)) :
    ∃ p us, v = .ref p ∧ H p = some (.lst us) ∧ us.length = ts.length ∧ StR K F0 H0 F1 (upd H1 p (.lst (us ++ ws))) σ ((killD ρ vs).set i (some (.t (.lst (ts ++ xs))))) := by
  obtain ⟨v', hv', tv⟩ := S.tre i _ hi
  rw [hv] at hv'
  cases hv'
  generalize hf : φ i = fi at tv
  cases tv with
  | lst hl hall =>
    rename_i p us fp
    refine ⟨p, us, rfl, hl, hall.length, ?_⟩
    have pin : p ∈ φ i := by rw [hf]; exact List.mem_cons_self
    obtain ⟨p0, pF, o, ho, no⟩ := S.fre i p pin
    have S1 := (S.go e1).drop (is := i :: vs)
    have pF1 : F1 p = none := e1.keep pF ho no
    have off : ∀ j, p ∉ phis φ (i :: vs) j := fun j h => by
      obtain ⟨n1, n2⟩ := phis_mem h
      have := S.dis i j p pin n2
      subst this
      exact n1 List.mem_cons_self
    have hl1 : H1 p = some (.lst us) := e1.h p _ hl
    have S2 := S1.mutF (q := p) (o := .lst (us ++ ws)) p0 pF1 hl1 nt_lst off
    have nodi : (p :: fp).Nodup := by rw [← hf]; exact S.nod i
    obtain ⟨np, nfp⟩ := List.nodup_cons.mp nodi
    have fqold : ∀ r ∈ fq, ∀ r' ∈ φ i, r ≠ r' := fun r hr r' hr' z => by
      subst z
      rcases (hp r hr).2 with y | ⟨j, hj, y⟩
      · obtain ⟨_, _, o', y2, _⟩ := S.fre i r hr'
        rw [y] at y2; cases y2
      · have := S.dis j i r y hr'
        subst this
        exact hni hj
    have pq : ∀ r ∈ fq, r ≠ p := fun r hr => fqold r hr p pin
    have k1 : KeepOn fp H (upd H1 p (.lst (us ++ ws))) := fun r o' hr t => by
      by_cases z : r = p
      · subst z
        rcases t with t | t
        · exact absurd t np
        · rw [hl] at hr; cases hr; exact absurd t nt_lst
      · rw [upd_ne z]; exact e1.h r o' hr
    have k2 : KeepOn fq H1 (upd H1 p (.lst (us ++ ws))) := fun r o' hr t => by
      by_cases z : r = p
      · subst z
        rcases t with t | t
        · exact absurd rfl (pq r t)
        · rw [hl1] at hr; cases hr; exact absurd t nt_lst
      · rw [upd_ne z]; exact hr
    have tnew : TvAt K F1 (upd H1 p (.lst (us ++ ws))) (p :: (fp ++ fq)) (.ref p) (.lst (ts ++ xs)) := .lst upd_same (TvAll.app (TvAll.keep e1.f k1 hall) (TvAll.keep (Same.refl F1) k2 tl))
    have nd2 : (p :: (fp ++ fq)).Nodup := List.nodup_cons.mpr ⟨fun h => by
      rcases List.mem_append.mp h with h | h
      · exact np h
      · exact pq p h rfl, List.nodup_append.mpr ⟨nfp, nd, fun a ha b hb z => fqold b hb a (by rw [hf]; exact List.mem_cons_of_mem _ ha) z.symm⟩⟩
    have S3 := S2.putT (i := i) tnew nd2 (fun r hr => ?_) (fun j r hj h1 h2 => ?_)
    · have e2 : (killD ρ (i :: vs)).set i (some (slOf (.lst (ts ++ xs)))) = (killD ρ vs).set i (some (.t (.lst (ts ++ xs)))) := by
        show (killD (ρ.set i none) vs).set i _ = _
        have : ∀ (is : List Nat) (ρ : Rho), (killD (ρ.set i none) is).set i (some (Sl.t (.lst (ts ++ xs)))) = (killD ρ is).set i (some (.t (.lst (ts ++ xs)))) := by
          intro is
          induction is with
          | nil => intro ρ; show (ρ.set i none).set i _ = _; rw [List.set_set]; rfl
          | cons j is ih =>
            intro ρ
            show (killD ((ρ.set i none).set j none) is).set i _ = (killD (ρ.set j none) is).set i _
            by_cases c : i = j
            · subst c
              rw [List.set_set]
            · rw [List.set_comm _ _ c, ih]
        exact this vs ρ
      rw [e2, set_same hv] at S3
      exact ⟨_, S3⟩
    · rcases List.mem_cons.mp hr with z | hr
      · rw [z]; exact ⟨p0, pF1⟩
      · rcases List.mem_append.mp hr with hr | hr
        · obtain ⟨a, b, o', c, d⟩ := S.fre i r (by rw [hf]; exact List.mem_cons_of_mem _ hr)
          exact ⟨a, e1.keep b c d⟩
        · refine ⟨?_, (hp r hr).1⟩
          rcases (hp r hr).2 with z | ⟨j, _, z⟩
          · exact S.ext.h.free z
          · exact (S.fre j r z).1
    · obtain ⟨n1, n2⟩ := phis_mem h1
      rcases List.mem_cons.mp h2 with z | h2
      · subst z
        exact hj (S.dis i j _ pin n2).symm
      · rcases List.mem_append.mp h2 with h2 | h2
        · exact hj (S.dis i j _ (by rw [hf]; exact List.mem_cons_of_mem _ h2) n2).symm
        · rcases (hp r h2).2 with y | ⟨j', hj', y⟩
          · obtain ⟨_, _, o', y2, _⟩ := S.fre j r n2
            rw [y] at y2; cases y2
          · have := S.dis j' j r y n2
            subst this
            exact n1 (List.mem_cons_of_mem _ hj')
def lstAt (ρ : Rho) (i : Nat) (k : List Tv → SR) : SR := match ρ[i]? with
  | some (some (.t (.lst ts))) => k ts
  | _ => .bad
def sAppendM (i : Nat) (vs : List Nat) (gm : Rho → R Tv) : Rho → SR := fun ρ => lstAt ρ i fun ts => SR.of (gm ρ) fun x => if ts.length < sizeLine then .nx ((killD ρ vs).set i (some (.t (.lst (ts ++ [x]))))) else .bad
theorem ds_appendM (i : Nat) (h : TDm K W vs te gm) (hni : i ∉ vs := by decide) : TDS K W (tDrop (tBM K "list" rAppend (tVar i) (tCons te tNil))) (sAppendM i vs gm) := fun F0 H0 F H σ ρ D S q => by
  obtain ⟨φ, S⟩ := S
  unfold sAppendM lstAt at q
  split at q
  · rename_i ts hi
    obtain ⟨v, hv, tv⟩ := S.tre i _ hi
    have hl : ∃ p us, v = .ref p ∧ H p = some (.lst us) ∧ us.length = ts.length := by
      generalize φ i = fi at tv
      cases tv with | lst a b => exact ⟨_, _, rfl, a, b.length⟩
    obtain ⟨p, us, rfl, hp, hlen⟩ := hl
    refine ⟨.ref p, hv, .inl ⟨rfl, us, SqL.of hp⟩, h F0 H0 F H σ ρ φ _ S (q.of S.ext fun x F1 H1 e1 k w fq tw nd hq => ?_)⟩
    by_cases hz : ts.length < sizeLine
    · rw [if_pos hz] at k
      have tl : TvAll K F1 H1 (fq ++ []) [w] [x] := .cons tw .nil
      rw [List.append_nil] at tl
      obtain ⟨p', us', e1', e2', e3', st⟩ := grow_ok S hi hv hni e1 tl nd hq
      cases e1'
      rw [hp] at e2'
      cases e2'
      exact ⟨p, us, w, rfl, rfl, e1.h p _ hp, by rw [hlen]; exact hz, k σ F1 _ st⟩
    · rw [if_neg hz] at k; exact k.elim
  · exact q.elim
def mLc (gi : Rho → R (List PD)) (a : Rho → PD → R Rho) (gt : Rho → R Bool) (ge : Rho → R Tv) (vs : List Nat) : Rho → R Tv := fun ρ =>
  (gi ρ).bind fun ds => (noExc (lcL (lcE a gt ge (wipeD ρ vs)) ds)).bind fun l => if l.length ≤ sizeLine then .ok (.lst l) else .bad
theorem tm_lc {ws : List Nat} {wi : TI} {gi : Rho → R (List PD)} {gx : TG} {a : Rho → PD → R Rho} {tt : TT} {gt : Rho → R Bool} {ge : Rho → R Tv}
    (hi : TDi K W wi gi) (hg : TDg K ws gx a) (ht : TDt K W0 tt gt) (he : TDm K W0 [] te ge) : TDm K W [] (tLc wi gx tt te ws) (mLc gi a gt ge ws) := fun F0 H0 F H σ ρ φ Q Sφ q => by
  have S : StR K F0 H0 F H σ ρ := ⟨φ, Sφ⟩
  refine hi F0 H0 F H σ ρ _ S ?_
  unfold mLc at q
  cases egi : gi ρ with
  | exc c => rw [egi] at q; exact q
  | bad => rw [egi] at q; exact q
  | ok ds =>
    rw [egi] at q
    replace q : Fin K W σ F H ((noExc (lcL (lcE a gt ge (wipeD ρ ws)) ds)).bind fun l => if l.length ≤ sizeLine then R.ok (Tv.lst l) else R.bad) (MvQ K H φ [] Q) := q
    cases el : lcL (lcE a gt ge (wipeD ρ ws)) ds with
    | exc c => rw [el] at q; exact q.elim
    | bad => rw [el] at q; exact q.elim
    | ok l =>
      rw [el] at q
      replace q : Fin K W σ F H (if l.length ≤ sizeLine then R.ok (Tv.lst l) else R.bad) (MvQ K H φ [] Q) := q
      by_cases hsz : l.length ≤ sizeLine
      · rw [if_pos hsz] at q
        intro F1 H1 e1 J hJ D hD
        have S1 := S.go e1
        refine ⟨fun i m H => m = ds.length - i ∧ ∃ F acc accv rest fp, Ext F1 H1 F H ∧ F D = none ∧ H D = some (.lst accv) ∧ TvAll K F H fp accv acc ∧ (fp.Nodup ∧ ∀ p ∈ fp, F p = none ∧ H1 p = none ∧ p ≠ D) ∧ lcL (lcE a gt ge (wipeD ρ ws)) (ds.drop i) = .ok rest ∧ l = acc ++ rest,
          ⟨_, rfl, F1, [], [], l, [], Ext.own e1.g hD, e1.g.free hD, upd_same, .nil, ⟨List.nodup_nil, fun p h => by cases h⟩, el, rfl⟩, ?_⟩
        rintro i m H2 ⟨rfl, F2, acc, accv, rest, fp, e2, hFD, hHD, racc, ⟨nd, hfp⟩, erest, hl⟩
        have S2 : StR K F0 H0 F2 H2 σ ρ := S1.go e2
        cases hd : ds[i]? with
        | none =>
          have hle := List.getElem?_eq_none_iff.mp hd
          rw [List.drop_eq_nil_of_le hle] at erest
          have hr : rest = [] := by unfold lcL at erest; cases erest; rfl
          subst hr
          rw [List.append_nil] at hl
          subst hl
          refine .inl ⟨(hJ i F2 H2 e2.f e2.g (S1.go e2).ext.h).2 hle, q F2 H2 (e1.trans e2) _ (D :: fp) (.lst hHD racc) (List.nodup_cons.mpr ⟨fun h => (hfp D h).2.2 rfl, nd⟩) fun p h => ?_⟩
          rcases List.mem_cons.mp h with z | z
          · subst z; exact ⟨hFD, .inl (e1.h.free hD)⟩
          · exact ⟨(hfp p z).1, .inl (e1.h.free (hfp p z).2.1)⟩
        | some d =>
          have hlt := (List.getElem?_eq_some_iff.mp hd).1
          rw [List.drop_eq_getElem_cons hlt, (List.getElem?_eq_some_iff.mp hd).2] at erest
          obtain ⟨o, l', eo, el', er⟩ := lcL_cons erest
          obtain ⟨go, yl⟩ := (hJ i F2 H2 e2.f e2.g (S1.go e2).ext.h).1 d hd
          refine .inr ⟨go, fun H' => ∃ F acc accv rest fp, Ext F1 H1 F H' ∧ F D = none ∧ H' D = some (.lst accv) ∧ TvAll K F H' fp accv acc ∧ (fp.Nodup ∧ ∀ p ∈ fp, F p = none ∧ H1 p = none ∧ p ≠ D) ∧ lcL (lcE a gt ge (wipeD ρ ws)) (ds.drop (i + 1)) = .ok rest ∧ l = acc ++ rest,
            fun H' ⟨F', acc', accv', rest', fp', z⟩ => ⟨_, by omega, rfl, F', acc', accv', rest', fp', z⟩, fun x H3 y => ?_⟩
          obtain ⟨F3, e3, r3⟩ := yl x H3 y
          have dne : ∀ {Fa Ha Fb Hb : Hp}, Ext Fa Ha Fb Hb → Fa D = none → Ha D = some (.lst accv) → Fb D = none ∧ Hb D = some (.lst accv) := fun {Fa Ha Fb Hb} e h1 h2 => ⟨e.keep h1 h2 nt_lst, e.h D _ h2⟩
          have onward : ∀ {Fb Hb : Hp}, Ext F2 H2 Fb Hb → TvAll K Fb Hb fp accv acc ∧ ∀ p ∈ fp, Fb p = none ∧ H1 p = none ∧ p ≠ D := fun {Fb Hb} e => ⟨TvAll.keep e.f (KeepOn.same e.h) racc, fun p h => by
            obtain ⟨u, hu, nu⟩ := racc.nt p h
            exact ⟨e.keep (hfp p h).1 hu nu, (hfp p h).2⟩⟩
          obtain ⟨hFD3, hHD3⟩ := dne e3 hFD hHD
          have S3 : StR K F0 H0 F3 H3 (L2.wipe σ ws) (wipeD ρ ws) := (S2.go e3).wipe ws
          refine hg F0 H0 F3 H3 _ _ x d _ S3 r3 ?_
          unfold lcE at eo
          cases ea : a (wipeD ρ ws) d with
          | exc c => rw [ea] at eo; cases eo
          | bad => rw [ea] at eo; cases eo
          | ok ρ4 =>
            rw [ea] at eo
            replace eo : ((gt ρ4).bind fun b => if b = true then (ge ρ4).bind fun y => R.ok (some y) else R.ok none) = R.ok o := eo
            intro σ4 S4 hw
            refine ⟨by rw [hw, wipe_wipe], ?_⟩
            refine ht F0 H0 F3 H3 σ4 ρ4 _ S4 ?_
            cases et : gt ρ4 with
            | exc c => rw [et] at eo; cases eo
            | bad => rw [et] at eo; cases eo
            | ok b =>
              rw [et] at eo
              intro F5 H5 e5
              obtain ⟨hFD5, hHD5⟩ := dne e5 hFD3 hHD3
              have e25 : Ext F2 H2 F5 H5 := e3.trans e5
              have e15 : Ext F1 H1 F5 H5 := e2.trans e25
              cases b with
              | false =>
                replace eo : R.ok none = R.ok o := eo
                cases eo
                show (∃ F acc accv rest fp, _)
                obtain ⟨t5, f5⟩ := onward e25
                exact ⟨F5, acc, accv, l', fp, e15, hFD5, hHD5, t5, ⟨nd, f5⟩, el', by rw [hl, er]; rfl⟩
              | true =>
                replace eo : ((ge ρ4).bind fun y => R.ok (some y)) = R.ok o := eo
                show te σ4 H5 _
                obtain ⟨φ4, S4f⟩ := S4.go e5
                refine he F0 H0 F5 H5 σ4 ρ4 φ4 _ S4f ?_
                cases ey : ge ρ4 with
                | exc c => rw [ey] at eo; cases eo
                | bad => rw [ey] at eo; cases eo
                | ok yv =>
                  rw [ey] at eo
                  replace eo : R.ok (some yv) = R.ok o := eo
                  cases eo
                  intro F6 H6 e6 v6 fq tv6 nd6 hfq
                  obtain ⟨hFD6, hHD6⟩ := dne e6 hFD5 hHD5
                  have e26 : Ext F2 H2 F6 H6 := e25.trans e6
                  have e16 : Ext F1 H1 F6 H6 := e15.trans e6
                  obtain ⟨t6, f6⟩ := onward e26
                  have new : ∀ p ∈ fq, H5 p = none := fun p h => by
                    rcases (hfq p h).2 with z | ⟨i, hi, _⟩
                    · exact z
                    · cases hi
                  have pD : ∀ p ∈ fq, p ≠ D := fun p h z => by have := new p h; rw [z, hHD5] at this; cases this
                  have pfp : ∀ p ∈ fq, p ∉ fp := fun p h h2 => by
                    obtain ⟨u, hu, _⟩ := (onward e25).1.nt p h2
                    rw [new p h] at hu; cases hu
                  have hlen : l.length = acc.length + (1 + l'.length) := by rw [hl, er]; simp; omega
                  have acl : accv.length = acc.length := racc.length
                  have kD : ∀ {fz : List Addr}, D ∉ fz → KeepOn fz H6 (upd H6 D (.lst (accv ++ [v6]))) := fun {fz} nq r o' hr t => by
                    by_cases z : r = D
                    · subst z
                      rcases t with t | t
                      · exact absurd t nq
                      · rw [hHD6] at hr; cases hr; exact absurd t nt_lst
                    · rw [upd_ne z]; exact hr
                  have nDfp : D ∉ fp := fun h => (hfp D h).2.2 rfl
                  have nDfq : D ∉ fq := fun h => pD D h rfl
                  have tnew : TvAll K F6 (upd H6 D (.lst (accv ++ [v6]))) (fp ++ (fq ++ [])) (accv ++ [v6]) (acc ++ [yv]) := TvAll.app (TvAll.keep (Same.refl F6) (kD nDfp) t6) (.cons (tv6.keep (Same.refl F6) (kD nDfq)) .nil)
                  rw [List.append_nil] at tnew
                  refine ⟨accv, hHD6, by rw [acl]; omega, F6, acc ++ [yv], accv ++ [v6], l', fp ++ fq, ⟨e16.f, fun b u z => ?_, fun b u z => ?_, e16.n⟩, hFD6, upd_same, tnew, ⟨List.nodup_append.mpr ⟨nd, nd6, fun a ha b hb z => pfp b hb (by rw [← z]; exact ha)⟩, fun p h => ?_⟩, el', by rw [hl, er]; simp⟩
                  · rw [upd_ne (ne_of_none z hFD6)]; exact e16.g b u z
                  · rw [upd_ne (ne_of_none z hD)]; exact e16.h b u z
                  · rcases List.mem_append.mp h with h | h
                    · exact f6 p h
                    · exact ⟨(hfq p h).1, e15.h.free (new p h), pD p h⟩
      · rw [if_neg hsz] at q
        exact q.elim
end
end DL
namespace DL
open PySem PySem.Spec PyProof.Rows L2
section
variable {K : PySem.W.Frag} {W : WX}
def treeOf (ρ : Rho) (i : Nat) : Option Tv := match ρ[i]? with
  | some (some (.t x)) => some x
  | some (some (.b x)) => some x
  | _ => none
def treeT (ρ : Rho) (i : Nat) : Option Tv := match ρ[i]? with
  | some (some (.t x)) => some x
  | _ => none
theorem treeT_e {ρ : Rho} {i : Nat} {x : Tv} (h : treeT ρ i = some x) : ρ[i]? = some (some (.t x)) := by
  unfold treeT at h
  split at h
  · rename_i e; cases h; exact e
  · cases h
theorem treeOf_T {ρ : Rho} {i : Nat} {x : Tv} (h : treeT ρ i = some x) : treeOf ρ i = some x := by
  unfold treeOf; rw [treeT_e h]
theorem StR.tree {F0 H0 F H : Hp} {σ : L2.St} {ρ : Rho} (S : StR K F0 H0 F H σ ρ) {i : Nat} {x : Tv} (h : treeOf ρ i = some x) : ∃ v fp, σ[i]? = some (some v) ∧ TvAt K F H fp v x := by
  unfold treeOf at h
  split at h
  · rename_i e
    cases h
    obtain ⟨φ, S⟩ := S
    obtain ⟨v, a, b⟩ := S.tre i _ e
    exact ⟨v, _, a, b⟩
  · rename_i e
    cases h
    obtain ⟨v, fp, a, b⟩ := S.bor i _ e
    exact ⟨v, fp, a, b.keep (Same.refl F) (KeepOn.same S.ext.h)⟩
  · cases h
theorem tvAll_get {F H : Hp} : ∀ {fp : List Addr} {vs : List V} {ts : List Tv} {k : Nat} {t : Tv}, TvAll K F H fp vs ts → ts[k]? = some t → ∃ v fq, vs[k]? = some v ∧ TvAt K F H fq v t ∧ (∀ p ∈ fq, p ∈ fp)
  | _, _, _, _, _, .nil, e => by simp at e
  | _, _, _, 0, t, .cons h r, e => by
    cases e
    exact ⟨_, _, rfl, h, fun p hp => List.mem_append_left _ hp⟩
  | _, _, _, k + 1, t, .cons h r, e => by
    obtain ⟨v, fq, a, b, c⟩ := tvAll_get r (show _ = some t from e)
    exact ⟨v, fq, a, b, fun p hp => List.mem_append_right _ (c p hp)⟩
theorem tvAt_get {F H : Hp} : ∀ {ks : List Nat} {fp : List Addr} {v : V} {t t' : Tv}, TvAt K F H fp v t → t.at ks = some t' → ∃ u fq, vAt H v ks u ∧ TvAt K F H fq u t' ∧ (∀ p ∈ fq, p ∈ fp)
  | [], fp, v, t, t', h, e => by
    unfold Tv.at at e
    cases e
    exact ⟨v, fp, rfl, h, fun _ hp => hp⟩
  | k :: ks, fp, v, t, t', h, e => by
    have none1 : ∀ {x : Tv}, x.kids = [] → x.at (k :: ks) = some t' → False := fun {x} h1 h2 => by
      unfold Tv.at at h2
      rw [h1] at h2
      cases h2
    have go : ∀ {us : List V} {ts : List Tv} {fz : List Addr} {a : Addr}, v = .ref a → kidsAt H a us → TvAll K F H fz us ts → t.kids = ts → (∀ p ∈ fz, p ∈ fp) → ∃ u fq, vAt H v (k :: ks) u ∧ TvAt K F H fq u t' ∧ (∀ p ∈ fq, p ∈ fp) := fun {us ts fz a} hv hk r hts hs => by
      unfold Tv.at at e
      rw [hts] at e
      cases ek : ts[k]? with
      | none => rw [ek] at e; cases e
      | some t1 =>
        rw [ek] at e
        obtain ⟨v1, f1, b1, b2, b3⟩ := tvAll_get r ek
        obtain ⟨u, fq, c1, c2, c3⟩ := tvAt_get b2 e
        exact ⟨u, fq, ⟨a, us, v1, hv, hk, b1, c1⟩, c2, fun p hp => hs p (b3 p (c3 p hp))⟩
    cases h with
    | fr _ => exact (none1 rfl e).elim
    | own _ => exact (none1 rfl e).elim
    | dT _ _ => exact (none1 rfl e).elim
    | any => exact (none1 rfl e).elim
    | tup s r => exact go rfl (.inl s) r rfl fun _ hp => hp
    | lst s r => exact go rfl (.inr (.inl s)) r rfl fun _ hp => List.mem_cons_of_mem _ hp
    | dct s l r => exact go rfl (.inr (.inr (.inr ⟨_, s, (zip_snd l).symm⟩))) r rfl fun _ hp => List.mem_cons_of_mem _ hp
    | obj s s' l r => exact go rfl (.inr (.inr (.inl ⟨_, _, _, s, (zip_snd l).symm⟩))) r rfl fun _ hp => List.mem_cons_of_mem _ (List.mem_cons_of_mem _ hp)
def TDp2 (K : PySem.W.Frag) (W : WX) (i : Nat) (t : TE) (g : Rho → R (List Nat)) : Prop := ∀ (F0 H0 F H : Hp) (σ : L2.St) (ρ : Rho) (x : Tv) (v : V) (Q : VK), StR K F0 H0 F H σ ρ → treeOf ρ i = some x → σ[i]? = some (some v) →
  Fin K W σ F H (g ρ) (fun ks _ H' => ∀ u, vAt H' v ks u → Q u H') → t σ H Q
variable {te ti tp : TE} {g gi : Rho → R PD} {gp : Rho → R (List Nat)}
def pVar : Rho → R (List Nat) := fun _ => .ok []
theorem tp_var (i : Nat) : TDp2 K W i (tVar i) pVar := fun F0 H0 F H σ ρ x v Q S hx hv q => ⟨v, hv, (q.ok S.same) v rfl⟩
def stepN (x : Tv) (ks : List Nat) (n : Int) : R (List Nat) := match x.at ks with
  | some t => if t.isSeq = true then (match ixN t.kids.length n with
    | some j => .ok (ks ++ [j])
    | none => .bad) else .bad
  | none => .bad
def pIx (i : Nat) (gp : Rho → R (List Nat)) (gi : Rho → R PD) : Rho → R (List Nat) := fun ρ => (gp ρ).bind fun ks => (gi ρ).bind fun a => match a with
  | .int n => (match treeOf ρ i with
    | some x => stepN x ks n
    | none => .bad)
  | _ => .bad
theorem ixN_lt {n : Nat} {i : Int} {j : Nat} (h : ixN n i = some j) : j < n := (ixN_seq h).2.1
theorem tp_ix (i : Nat) (hp : TDp2 K W i tp gp) (hi : TDr K W ti gi) : TDp2 K W i (tOp (rIx K) tp ti) (pIx i gp gi) := fun F0 H0 F H σ ρ x v Q S hx hv q =>
  hp F0 H0 F H σ ρ x v _ S hx hv (q.then fun ks F1 H1 e1 k1 u0 hu0 => hi F0 H0 F1 H1 σ ρ _ (S.go e1) (k1.then fun a F2 H2 e2 k2 w rw' => by
    cases a with
    | int n =>
      replace k2 : Fin K W σ F2 H2 (match treeOf ρ i with
        | some x => stepN x ks n
        | none => .bad) (fun ks _ H' => ∀ u, vAt H' v ks u → Q u H') := k2
      rw [hx] at k2
      replace k2 : Fin K W σ F2 H2 (stepN x ks n) (fun ks _ H' => ∀ u, vAt H' v ks u → Q u H') := k2
      unfold stepN at k2
      cases ek : x.at ks with
      | none => rw [ek] at k2; exact k2.elim
      | some t =>
        rw [ek] at k2
        dsimp only at k2
        by_cases c : t.isSeq = true
        · rw [if_pos c] at k2
          cases ej : ixN t.kids.length n with
          | none => rw [ej] at k2; exact k2.elim
          | some j =>
            rw [ej] at k2
            dsimp only at k2
            have S2 := (S.go e1).go e2
            obtain ⟨v', fp, a1, b1⟩ := S2.tree hx
            rw [hv] at a1; cases a1
            obtain ⟨u1, fz, g1, g2, _⟩ := tvAt_get b1 ek
            have := (hu0.mono e2.h).det g1
            subst this
            have fin := Fin.okk (x := ks ++ [j]) K W σ e2.g k2
            cases g2 with
            | @tup p us _ ts s r =>
              have hl : j < us.length := by rw [r.length]; exact ixN_lt ej
              have e3 : us[j]? = some us[j] := List.getElem?_eq_getElem hl
              refine .inr (.inl ⟨p, us, n, us[j], rfl, rw'.int, SqT.of s, ?_, fin _ (g1.one rfl (.inl s) e3)⟩)
              unfold atI
              rw [r.length, show ts.length = (Tv.tup ts).kids.length from rfl, ej]
              exact e3
            | @lst p us fq ts s r =>
              have hl : j < us.length := by rw [r.length]; exact ixN_lt ej
              have e3 : us[j]? = some us[j] := List.getElem?_eq_getElem hl
              refine .inl ⟨p, us, n, us[j], rfl, rw'.int, SqL.of s, ?_, fin _ (g1.one rfl (.inr (.inl s)) e3)⟩
              unfold atI
              rw [r.length, show ts.length = (Tv.lst ts).kids.length from rfl, ej]
              exact e3
            | fr _ => cases c
            | own _ => cases c
            | dT _ _ => cases c
            | obj _ _ _ _ => cases c
            | dct _ _ _ => cases c
            | any => cases c
        · rw [if_neg c] at k2; exact k2.elim
    | _ => exact k2.elim))
def atP (i : Nat) (gp : Rho → R (List Nat)) : Rho → R Tv := fun ρ => match treeOf ρ i with
  | some x => (gp ρ).bind fun ks => (match x.at ks with
    | some t => .ok t
    | none => .bad)
  | none => .bad
theorem atP_ok {i : Nat} {F0 H0 F H : Hp} {σ : L2.St} {ρ : Rho} {α : Type} {k : Tv → R α} {P : α → Hp → Hp → Prop} {Q : VK} (hp : TDp2 K W i tp gp) (S : StR K F0 H0 F H σ ρ) (q : Fin K W σ F H ((atP i gp ρ).bind k) P)
    (h : ∀ (t : Tv) (u : V) (fq : List Addr) (F1 H1 : Hp), Ext F H F1 H1 → TvAt K F1 H1 fq u t → Fin K W σ F1 H1 (k t) P → Q u H1) : tp σ H Q := by
  unfold atP at q
  cases hx : treeOf ρ i with
  | none => rw [hx] at q; exact q.elim
  | some x =>
    rw [hx] at q
    obtain ⟨v, fp, hv, _⟩ := S.tree hx
    refine hp F0 H0 F H σ ρ x v _ S hx hv ?_
    cases eg : gp ρ with
    | exc c => simp only [eg] at q; exact q
    | bad => simp only [eg] at q; exact q
    | ok ks =>
      simp only [eg] at q
      replace q : Fin K W σ F H (R.bind (match x.at ks with | some t => R.ok t | none => R.bad) k) P := q
      intro F1 H1 e1 u hu
      have S1 := S.go e1
      obtain ⟨v', fp', a1, b1⟩ := S1.tree hx
      rw [hv] at a1; cases a1
      cases ek : x.at ks with
      | none => rw [ek] at q; exact q.elim
      | some t =>
        rw [ek] at q
        obtain ⟨u1, fz, g1, g2, _⟩ := tvAt_get b1 ek
        have := hu.det g1
        subst this
        exact h t u fz F1 H1 e1 g2 (Fin.mono e1 q)
def rdT : Tv → R PD
  | .fr d => .ok d
  | .own x => .ok x
  | _ => .bad
def rPl (i : Nat) (gp : Rho → R (List Nat)) : Rho → R PD := fun ρ => (atP i gp ρ).bind rdT
theorem tr_pl (i : Nat) (hp : TDp2 K W i tp gp) : TDr K W tp (rPl i gp) := fun F0 H0 F H σ ρ Q S q =>
  atP_ok hp S q fun t u fq F1 H1 e tv k => by
    cases tv with
    | fr r => exact (k.ok e.g) u (.inl r)
    | own o => exact (k.ok e.g) _ (.inr ⟨_, rfl, o⟩)
    | _ => exact k.elim
def hPl (i : Nat) (gp : Rho → R (List Nat)) : Rho → R PD := fun ρ => (atP i gp ρ).bind Tv.toD
theorem th_pl (i : Nat) (hp : TDp2 K W i tp gp) : TDh K W tp (hPl i gp) := fun F0 H0 F H σ ρ Q S q =>
  atP_ok hp S q fun t u fq F1 H1 e tv k => by
    cases ed : t.toD with
    | ok d => rw [ed] at k; exact (k.ok e.g) u ((tv.frz e.g ed).mono (frz_g e.g))
    | exc c => exact absurd ed (toD_x t c)
    | bad => rw [ed] at k; exact k.elim
end
end DL
namespace DL
open PySem PySem.Spec PyProof.Rows L2
section
variable {K : PySem.W.Frag} {W : WX}
theorem killD_set {x : Option Sl} : ∀ (vs : List Nat) (ρ : Rho) (i : Nat), (killD (ρ.set i none) vs).set i x = (killD ρ vs).set i x
  | [], ρ, i => by show (ρ.set i none).set i _ = _; rw [List.set_set]; rfl
  | j :: is, ρ, i => by
    show (killD ((ρ.set i none).set j none) is).set i _ = (killD (ρ.set j none) is).set i _
    by_cases c : i = j
    · subst c; rw [List.set_set]
    · rw [List.set_comm _ _ c, killD_set is]
theorem slOf_setAt {t' t'' : Tv} (ht : ∀ d, t'' ≠ .fr d) : ∀ {ks : List Nat} {x : Tv}, x.at ks = some t' → slOf (x.setAt ks t'') = .t (x.setAt ks t'')
  | [], x, _ => by
    have : x.setAt [] t'' = t'' := by unfold Tv.setAt; rfl
    rw [this]
    cases t'' with
    | fr d => exact absurd rfl (ht d)
    | _ => rfl
  | k :: ks, x, h => by
    unfold Tv.at at h
    unfold Tv.setAt
    cases e : x.kids[k]? with
    | none => rw [e] at h; cases h
    | some t1 =>
      cases x with
      | tup _ => rfl
      | lst _ => rfl
      | obj _ _ _ => rfl
      | dct _ _ => rfl
      | fr _ => cases e
      | own _ => cases e
      | dT _ => cases e
      | any => cases e
theorem StF.place {F0 H0 F H : Hp} {σ : L2.St} {ρ : Rho} {φ : Nat → List Addr} (S : StF K F0 H0 F H σ ρ φ) {i : Nat} {x t' : Tv} {v u : V} {ks : List Nat} (hx : ρ[i]? = some (some (.t x))) (hv : σ[i]? = some (some v)) (ea : x.at ks = some t') (hu : vAt H v ks u) :
    ∃ fq, TvAt K F H fq u t' ∧ fq.Nodup ∧ (∀ p ∈ fq, p ∈ φ i) ∧ ∀ {F1 H1 : Hp} {vs : List Nat} (q : Addr) (o : HO) (fz : List Addr) (t'' : Tv), (∀ d, t'' ≠ .fr d) → Ext F H F1 H1 → i ∉ vs → q ∈ fq → ¬ tupO o → fz.Nodup →
      (∀ p ∈ fz, p ∈ fq ∨ (F1 p = none ∧ (H p = none ∨ ∃ j ∈ vs, p ∈ φ j))) → TvAt K F1 (upd H1 q o) fz u t'' → StR K F0 H0 F1 (upd H1 q o) σ ((killD ρ vs).set i (some (.t (x.setAt ks t'')))) := by
  obtain ⟨v', a1, b1⟩ := S.tre i x hx
  rw [hv] at a1; cases a1
  obtain ⟨u1, fq, c1, c2, c3, c4, c5⟩ := tvAt_at b1 (S.nod i) ea
  have := hu.det c1
  subst this
  refine ⟨fq, c2, c3, c4, fun {F1 H1 vs} q o fz t'' ht e hni hq ho nz hz tv => ?_⟩
  have qin := c4 q hq
  obtain ⟨q0, qF, oo, hoo, noo⟩ := S.fre i q qin
  have old : ∀ p ∈ fz, p ∈ fq ∨ p ∉ φ i := fun p hp => (hz p hp).imp id fun z y => by
    rcases z.2 with z | ⟨j, hj, z⟩
    · obtain ⟨_, _, o', y2, _⟩ := S.fre i p y
      rw [z] at y2; cases y2
    · have := S.dis j i p z y
      subst this
      exact hni hj
  obtain ⟨fp', d1, d2, d3⟩ := c5 F1 (upd H1 q o) t'' [q] fz e.f (fun p hp => by rw [List.mem_singleton.mp hp]; exact hq) (fun p u' hp hn => by
    rw [upd_ne (fun z => hn (by rw [z]; exact List.mem_singleton.mpr rfl))]
    exact e.h p u' hp) nz old tv
  have S1 := (S.go e).drop (is := i :: vs)
  have qF1 : F1 q = none := e.keep qF hoo noo
  have off : ∀ j, q ∉ phis φ (i :: vs) j := fun j h => by
    obtain ⟨n1, n2⟩ := phis_mem h
    have := S.dis i j q qin n2
    subst this
    exact n1 List.mem_cons_self
  have S2 := S1.mutF (q := q) (o := o) q0 qF1 (e.h q _ hoo) noo off
  have free : ∀ p ∈ fp', H0 p = none ∧ F1 p = none := fun p hp => by
    have inold : p ∈ φ i → H0 p = none ∧ F1 p = none := fun h => by
      obtain ⟨a, b, o', c, d⟩ := S.fre i p h
      exact ⟨a, e.keep b c d⟩
    rcases d3 p hp with z | z
    · exact inold z.1
    · rcases hz p z with z | z
      · exact inold (c4 p z)
      · refine ⟨?_, z.1⟩
        rcases z.2 with z | ⟨j, _, z⟩
        · exact S.ext.h.free z
        · exact (S.fre j p z).1
  have S3 := S2.putT (i := i) d1 d2 free fun j p hj h1 h2 => by
    obtain ⟨n1, n2⟩ := phis_mem h1
    have notin : p ∉ φ i := fun z => hj (S.dis j i p n2 z)
    rcases d3 p h2 with z | z
    · exact notin z.1
    · rcases hz p z with z | z
      · exact notin (c4 p z)
      · rcases z.2 with y | ⟨j', hj', y⟩
        · obtain ⟨_, _, o', y2, _⟩ := S.fre j p n2
          rw [y] at y2; cases y2
        · have := S.dis j' j p y n2
          subst this
          exact n1 (List.mem_cons_of_mem _ hj')
  have e2 : (killD ρ (i :: vs)).set i (some (slOf (x.setAt ks t''))) = (killD ρ vs).set i (some (.t (x.setAt ks t''))) := by
    show (killD (ρ.set i none) vs).set i _ = _
    rw [killD_set, slOf_setAt ht ea]
  rw [e2, set_same hv] at S3
  exact ⟨_, S3⟩
variable {te ti tp : TE} {g gi : Rho → R PD} {gp : Rho → R (List Nat)} {vs : List Nat} {gm : Rho → R Tv}
def onP (i : Nat) (gp : Rho → R (List Nat)) (k : Tv → List Nat → Tv → Rho → SR) : Rho → SR := fun ρ => match treeT ρ i with
  | some x => SR.of (gp ρ) fun ks => (match x.at ks with
    | some t => k x ks t ρ
    | none => .bad)
  | none => .bad
def putP (i : Nat) (x : Tv) (ks : List Nat) (vs : List Nat) (t : Tv) (ρ : Rho) : SR := .nx ((killD ρ vs).set i (some (.t (x.setAt ks t))))
theorem onP_ok {F0 H0 F H : Hp} {σ : L2.St} {ρ : Rho} {D : Ends} {Q : VK} {i : Nat} {k : Tv → List Nat → Tv → Rho → SR} (hp : TDp2 K W i tp gp) (S : StR K F0 H0 F H σ ρ) (q : FinS K W F0 H0 D (onP i gp k ρ))
    (h : ∀ (x t : Tv) (ks : List Nat) (v u : V) (fq : List Addr) (F1 H1 : Hp) (φ : Nat → List Addr), ρ[i]? = some (some (.t x)) → σ[i]? = some (some v) → x.at ks = some t → Ext F H F1 H1 → vAt H1 v ks u → StF K F0 H0 F1 H1 σ ρ φ → TvAt K F1 H1 fq u t → FinS K W F0 H0 D (k x ks t ρ) → Q u H1) : tp σ H Q := by
  unfold onP at q
  cases et : treeT ρ i with
  | none => rw [et] at q; exact q.elim
  | some x =>
    rw [et] at q
    have hx := treeT_e et
    obtain ⟨v, hv, _⟩ := (show ∃ v, σ[i]? = some (some v) ∧ True from let ⟨φ, S⟩ := S; let ⟨v, a, _⟩ := S.tre i x hx; ⟨v, a, True.intro⟩)
    refine hp F0 H0 F H σ ρ x v _ S (treeOf_T et) hv (q.of S.ext fun ks F1 H1 e1 k1 u hu => ?_)
    cases ea : x.at ks with
    | none => rw [ea] at k1; exact k1.elim
    | some t =>
      rw [ea] at k1
      obtain ⟨φ, S1⟩ := S.go e1
      obtain ⟨fq, c1, _, _, _⟩ := S1.place hx hv ea hu
      exact h x t ks v u fq F1 H1 φ hx hv ea e1 hu S1 c1 k1
theorem StF.putL {F0 H0 F H : Hp} {σ : L2.St} {ρ : Rho} {φ : Nat → List Addr} (S : StF K F0 H0 F H σ ρ φ) {i : Nat} {x : Tv} {v : V} {p : Addr} {ks : List Nat} {y : PD} (hx : ρ[i]? = some (some (.t x))) (hv : σ[i]? = some (some v)) (ea : x.at ks = some (.own y)) (hu : vAt H v ks (.ref p))
    {F1 H1 : Hp} (e : Ext F H F1 H1) {o : HO} {z : PD} (ho : ¬ tupO o) (hz : OwnAt K F1 (upd H1 p o) p z) : StR K F0 H0 F1 (upd H1 p o) σ (ρ.set i (some (.t (x.setAt ks (.own z))))) := by
  obtain ⟨fq, c1, c2, c3, c4⟩ := S.place hx hv ea hu
  cases c1 with
  | own ho' => exact c4 (vs := []) p o [p] (.own z) (fun d h => by cases h) e (by simp) (by simp) ho (by simp) (fun q hq => .inl hq) (.own hz)
def ownT (k : List PD → SR) : Tv → SR
  | .own (.list ds) => k ds
  | _ => .bad
def sAppendP (i : Nat) (gp : Rho → R (List Nat)) (g : Rho → R PD) : Rho → SR := onP i gp fun x ks t ρ => ownT (fun ds => SR.of (g ρ) fun d => if ds.length < sizeLine then putP i x ks [] (.own (.list (ds ++ [d]))) ρ else .bad) t
theorem ds_appendP (i : Nat) (hp : TDp2 K W i tp gp) (h : TDe K W te g) : TDS K W (tDrop (tBM K "list" rAppend tp (tCons te tNil))) (sAppendP i gp g) := fun F0 H0 F H σ ρ D S q =>
  onP_ok (tp := tp) hp S q fun x t ks v u fq F1 H1 φ hx hv ea e1 hu S1 tv k1 => by
    cases tv with
    | @own p y ho =>
      cases y with
      | list ds =>
        obtain ⟨us, hl, hd⟩ := ho
        replace k1 : FinS K W F0 H0 D (SR.of (g ρ) fun d => if ds.length < sizeLine then putP i x ks [] (.own (.list (ds ++ [d]))) ρ else .bad) := k1
        refine ⟨.inl ⟨rfl, us, SqL.of hl⟩, h F0 H0 F1 H1 σ ρ _ ⟨φ, S1⟩ (k1.of S1.ext fun d F2 H2 e2 k2 w rw' => ?_)⟩
        by_cases hz : ds.length < sizeLine
        · rw [if_pos hz] at k2
          exact ⟨p, us, w, rfl, rfl, e2.h _ _ hl, by rw [hd.length]; exact hz, k2 σ F2 _ (S1.putL hx hv ea hu e2 nt_lst ⟨_, upd_same, (hd.mono e2.f).append (.cons rw' .nil)⟩)⟩
        · rw [if_neg hz] at k2; exact k2.elim
      | _ => exact k1.elim
    | _ => exact k1.elim
end
end DL
namespace DL
open PySem PySem.Spec PyProof.Rows L2
section
variable {K : PySem.W.Frag} {W : WX} {te ti tp : TE} {g gi : Rho → R PD} {gp : Rho → R (List Nat)} {vs : List Nat} {gm : Rho → R Tv}
theorem TvAll.setN {F H : Hp} : ∀ {fp : List Addr} {us : List V} {ts : List Tv} {j : Nat} {fw : List Addr} {w : V} {y : Tv}, TvAll K F H fp us ts → fp.Nodup → j < ts.length → TvAt K F H fw w y → fw.Nodup → (∀ p ∈ fw, p ∉ fp) → ∃ fq, TvAll K F H fq (us.set j w) (ts.set j y) ∧ fq.Nodup ∧ ∀ p ∈ fq, p ∈ fp ∨ p ∈ fw
  | _, _, _, j, _, _, _, .nil, _, hj, _, _, _ => absurd hj (Nat.not_lt_zero _)
  | _, _, _, 0, fw, w, y, .cons (fp := fp) (fq := fq) h t, nd, hj, hw, nw, dj => by
    obtain ⟨n1, n2, n3⟩ := List.nodup_append.mp nd
    refine ⟨fw ++ fq, .cons hw t, List.nodup_append.mpr ⟨nw, n2, fun a ha b hb z => dj a ha (by rw [z]; exact List.mem_append_right _ hb)⟩, fun p hp => ?_⟩
    rcases List.mem_append.mp hp with z | z
    · exact .inr z
    · exact .inl (List.mem_append_right _ z)
  | _, _, _, j + 1, fw, w, y, .cons (fp := fp) (fq := fq) h t, nd, hj, hw, nw, dj => by
    obtain ⟨n1, n2, n3⟩ := List.nodup_append.mp nd
    obtain ⟨fz, a, b, c⟩ := TvAll.setN (j := j) t n2 (by simpa using hj) hw nw fun p hp z => dj p hp (List.mem_append_right _ z)
    refine ⟨fp ++ fz, .cons h a, List.nodup_append.mpr ⟨n1, b, fun x hx y hy z => ?_⟩, fun p hp => ?_⟩
    · subst z
      rcases c x hy with z | z
      · exact n3 x hx x z rfl
      · exact dj x z (List.mem_append_left _ hx)
    · rcases List.mem_append.mp hp with z | z
      · exact .inl (List.mem_append_left _ z)
      · exact (c p z).imp (List.mem_append_right _) id
end
end DL
namespace DL
open PySem PySem.Spec PyProof.Rows L2
def Kpt (ms : List Nat) (σ σ' : L2.St) : Prop := ∀ m ∈ ms, σ'[m]? = σ[m]?
theorem Kpt.refl {ms : List Nat} {σ : L2.St} : Kpt ms σ σ := fun _ _ => rfl
theorem Kpt.trans {ms : List Nat} {σ σ1 σ2 : L2.St} (h : Kpt ms σ σ1) (k : Kpt ms σ1 σ2) : Kpt ms σ σ2 := fun m hm => (k m hm).trans (h m hm)
theorem Kpt.set {ms : List Nat} {σ : L2.St} {i : Nat} {x : Option V} (hi : i ∉ ms) : Kpt ms σ (σ.set i x) := fun m hm => List.getElem?_set_ne fun z => hi (by rw [z]; exact hm)
theorem Kpt.eq {ms : List Nat} {σ σ1 : L2.St} (h : Kpt ms σ σ1) : Kpt ms σ1 = Kpt ms σ := funext fun σ2 => propext ⟨fun k => h.trans k, fun k m hm => (k m hm).trans (h m hm).symm⟩
abbrev kpP (ms : List Nat) (σ : L2.St) (P : L2.St → Hp → Prop) : L2.St → Hp → Prop := fun σ' H' => P σ' H' ∧ Kpt ms σ σ'
def kc (ms : List Nat) (σ : L2.St) (D : Ends) : Ends := ⟨kpP ms σ D.nx, D.rt, kpP ms σ D.bk, kpP ms σ D.ct⟩
theorem kpP_id {ms : List Nat} {σ : L2.St} {P : L2.St → Hp → Prop} {H : Hp} : kpP ms σ P σ H = P σ H := propext ⟨fun h => h.1, fun h => ⟨h, Kpt.refl⟩⟩
def Kp (ms : List Nat) (t : TS) : Prop := ∀ (D : Ends) (σ : L2.St) (H : Hp), t D σ H ↔ t (kc ms σ D) σ H
def Kg (ms : List Nat) (g : TG) : Prop := ∀ (x : V) (σ : L2.St) (H : Hp) (Q : L2.St → Hp → Prop), g x σ H Q ↔ g x σ H (kpP ms σ Q)
def Kgs (ms : List Nat) (g : TGs) : Prop := ∀ (xs : List V) (σ : L2.St) (H : Hp) (Q : L2.St → Hp → Prop), g xs σ H Q ↔ g xs σ H (kpP ms σ Q)
section
variable {ms : List Nat} {t u : TS} {te ta tv ti : TE} {c : TT} {g : TG} {gs : TGs}
theorem Kp.eqv (h : Kp ms t) {D D' : Ends} {σ : L2.St} {H : Hp} (n : kpP ms σ D.nx = kpP ms σ D'.nx) (r : D.rt = D'.rt) (b : kpP ms σ D.bk = kpP ms σ D'.bk) (c : kpP ms σ D.ct = kpP ms σ D'.ct) : t D σ H ↔ t D' σ H := by
  rw [h D σ H, h D' σ H]
  unfold kc
  rw [n, r, b, c]
theorem Kg.eqv (h : Kg ms g) {x : V} {σ : L2.St} {H : Hp} {Q Q' : L2.St → Hp → Prop} (e : kpP ms σ Q = kpP ms σ Q') : g x σ H Q ↔ g x σ H Q' := by rw [h x σ H Q, h x σ H Q', e]
theorem Kgs.eqv (h : Kgs ms gs) {x : List V} {σ : L2.St} {H : Hp} {Q Q' : L2.St → Hp → Prop} (e : kpP ms σ Q = kpP ms σ Q') : gs x σ H Q ↔ gs x σ H Q' := by rw [h x σ H Q, h x σ H Q', e]
theorem kp_cut {P P' : L2.St → Hp → Prop} {σ : L2.St} (h : ∀ σ' H', Kpt ms σ σ' → (P σ' H' ↔ P' σ' H')) : kpP ms σ P = kpP ms σ P' := funext fun σ' => funext fun H' => propext ⟨fun ⟨a, b⟩ => ⟨(h σ' H' b).mp a, b⟩, fun ⟨a, b⟩ => ⟨(h σ' H' b).mpr a, b⟩⟩
theorem kp_next : Kp ms tNext := fun D σ H => by
  show D.nx σ H ↔ kpP ms σ D.nx σ H
  rw [kpP_id]
theorem kp_drop : Kp ms (tDrop te) := fun D σ H => by
  show te σ H (fun _ H1 => D.nx σ H1) ↔ te σ H fun _ H1 => kpP ms σ D.nx σ H1
  simp only [kpP_id]
theorem kg_name {i : Nat} (hi : i ∉ ms := by decide) : Kg ms (gName i) := fun x σ H Q => ⟨fun h => ⟨h, Kpt.set hi⟩, fun h => h.1⟩
theorem kp_asg (h : Kg ms g) : Kp ms (tAsg te g) := fun D σ H => by
  show te σ H (fun x H1 => g x σ H1 D.nx) ↔ te σ H fun x H1 => g x σ H1 (kpP ms σ D.nx)
  have e : (fun (x : V) (H1 : Hp) => g x σ H1 D.nx) = fun x H1 => g x σ H1 (kpP ms σ D.nx) := funext fun x => funext fun H1 => propext (h x σ H1 D.nx)
  rw [e]
end
end DL
namespace DL
open PySem PySem.Spec PyProof.Rows L2
inductive XR where
  | rt (s : Sl) (ts : List Tv)
  | exc (c : Ec) (o : Option (List Tv))
  | bad
inductive SX where
  | nx (ρ : Rho)
  | rt (s : Sl) (ρ : Rho)
  | bk (ρ : Rho)
  | ct (ρ : Rho)
  | exc (c : Ec) (o : Option Rho)
  | bad
section
variable (K : PySem.W.Frag)
inductive ArX (F H0 H : Hp) : List Bool → List V → List Tv → List Addr → Prop
  | nil : ArX F H0 H [] [] [] []
  | b {ms : List Bool} {u : V} {us : List V} {t : Tv} {ts : List Tv} {fp fq : List Addr} : TvAt K F H0 fq u t → ArX F H0 H ms us ts fp → ArX F H0 H (false :: ms) (u :: us) (t :: ts) fp
  | x {ms : List Bool} {u : V} {us : List V} {t : Tv} {ts : List Tv} {fp fq : List Addr} : TvAt K F H fq u t → ArX F H0 H ms us ts fp → ArX F H0 H (true :: ms) (u :: us) (t :: ts) (fq ++ fp)
inductive XpX (F H : Hp) : List Bool → List V → List Tv → List Addr → Prop
  | nil : XpX F H [] [] [] []
  | b {ms : List Bool} {u : V} {us : List V} {ts : List Tv} {fp : List Addr} : XpX F H ms us ts fp → XpX F H (false :: ms) (u :: us) ts fp
  | x {ms : List Bool} {u : V} {us : List V} {t : Tv} {ts : List Tv} {fp fq : List Addr} : TvAt K F H fq u t → XpX F H ms us ts fp → XpX F H (true :: ms) (u :: us) (t :: ts) (fq ++ fp)
structure XpQ (H0 : Hp) (ms : List Bool) (vs : List V) (ts : List Tv) (F' H' : Hp) (fp : List Addr) : Prop where
  x : XpX K F' H' ms vs ts fp
  n : fp.Nodup
  f : ∀ p ∈ fp, H0 p = none ∧ F' p = none
def XRQ (F H0 : Hp) (ms : List Bool) (vs : List V) (Q : VK) (E : XK) : XR → Prop
  | .rt (.d x) ts => ∀ v F' H' fp, Ext F H0 F' H' → Dp K F' v x → XpQ K H0 ms vs ts F' H' fp → Q v H'
  | .rt (.t x) ts => ∀ v fq F' H' fp, Ext F H0 F' H' → TvAt K F' H' fq v x → fq.Nodup → (∀ p ∈ fq, H0 p = none ∧ F' p = none) → XpQ K H0 ms vs ts F' H' fp → (∀ p ∈ fp, p ∉ fq) → Q v H'
  | .rt _ _ => False
  | .exc c (some ts) => ∀ cls d F' H' fp, Ext F H0 F' H' → ExR K c cls d H' → XpQ K H0 ms vs ts F' H' fp → E cls d H'
  | .exc c none => ∀ cls d F' H', Ext F H0 F' H' → ExR K c cls d H' → E cls d H'
  | .bad => False
def spX (ms : List Bool) (f : List Tv → XR) : Sp := fun vs H Q E => vs.length = ms.length ∧ ∃ F H0 fp ts, Same F H0 ∧ Same H0 H ∧ ArX K F H0 H ms vs ts fp ∧ fp.Nodup ∧ (∀ p ∈ fp, H0 p = none) ∧ XRQ K F H0 ms vs Q E (f ts)
end
def slB : Tv → Sl
  | .fr d => .d d
  | x => .b x
def goX : List Bool → List Tv → Rho
  | m :: ms, t :: ts => some (if m = true then slOf t else slB t) :: goX ms ts
  | _, _ => []
def startX (n : Nat) (ms : List Bool) (ts : List Tv) : Rho := goX ms ts ++ List.replicate (n - ts.length) none
def outX : List Bool → Rho → Option (List Tv)
  | [], _ => some []
  | false :: ms, _ :: ρ => outX ms ρ
  | true :: ms, some (.t x) :: ρ => (outX ms ρ).map (x :: ·)
  | true :: ms, some (.d d) :: ρ => (outX ms ρ).map (.fr d :: ·)
  | _, _ => none
def trk : Nat → List Bool → List Nat
  | _, [] => []
  | k, true :: ms => k :: trk (k + 1) ms
  | k, false :: ms => trk (k + 1) ms
def endX (ms : List Bool) : SX → XR
  | .nx ρ => (match outX ms ρ with
    | some ts => .rt (.d .none) ts
    | none => .bad)
  | .rt s ρ => (match outX ms ρ with
    | some ts => .rt s ts
    | none => .bad)
  | .exc c none => .exc c none
  | .exc c (some ρ) => (match outX ms ρ with
    | some ts => .exc c (some ts)
    | none => .exc c none)
  | _ => .bad
def runX (n : Nat) (ms : List Bool) (s : Rho → SX) (ts : List Tv) : XR := endX ms (s (startX n ms ts))
section
variable {K : PySem.W.Frag} {W : WX}
theorem ArX.length {F H0 H : Hp} : ∀ {ms : List Bool} {us : List V} {ts : List Tv} {fp : List Addr}, ArX K F H0 H ms us ts fp → us.length = ts.length ∧ ms.length = ts.length
  | _, _, _, _, .nil => ⟨rfl, rfl⟩
  | _, _, _, _, .b _ k => by
    obtain ⟨a, b⟩ := k.length
    exact ⟨by simp [a], by simp [b]⟩
  | _, _, _, _, .x _ k => by
    obtain ⟨a, b⟩ := k.length
    exact ⟨by simp [a], by simp [b]⟩
theorem ArX.nt {F H0 H : Hp} : ∀ {ms : List Bool} {us : List V} {ts : List Tv} {fp : List Addr}, ArX K F H0 H ms us ts fp → ∀ p ∈ fp, ∃ o, H p = some o ∧ ¬ tupO o
  | _, _, _, _, .nil, p, hp => by cases hp
  | _, _, _, _, .b _ k, p, hp => k.nt p hp
  | _, _, _, _, .x h k, p, hp => by
    rcases List.mem_append.mp hp with z | z
    · exact h.nt p z
    · exact k.nt p z
theorem ArX.split {F H0 H : Hp} : ∀ {ms : List Bool} {us : List V} {ts : List Tv} {fp : List Addr}, ArX K F H0 H ms us ts fp → fp.Nodup → ∃ φ : Nat → List Addr, (∀ i p, p ∈ φ i → p ∈ fp) ∧ (∀ i, (φ i).Nodup) ∧ (∀ i j p, p ∈ φ i → p ∈ φ j → i = j) ∧
    ∀ (i : Nat) (s : Sl), (goX ms ts)[i]? = some (some s) → ∃ v t, us[i]? = some v ∧ ((s = slOf t ∧ TvAt K F H (φ i) v t) ∨ (s = slB t ∧ ∃ fq, TvAt K F H0 fq v t))
  | _, _, _, _, .nil, _ => ⟨fun _ => [], fun i p h => (by cases h), fun i => List.nodup_nil, fun i j p h => (by cases h), fun i t h => (by simp [goX] at h)⟩
  | _, _, _, _, .b (t := t) (fp := fp) h k, nd => by
    obtain ⟨φ, a1, a2, a3, a4⟩ := k.split nd
    refine ⟨fun i => match i with | 0 => [] | i + 1 => φ i, fun i p hp => ?_, fun i => ?_, fun i j p hi hj => ?_, fun i s e => ?_⟩
    · cases i with
      | zero => cases hp
      | succ i => exact a1 i p hp
    · cases i with
      | zero => exact List.nodup_nil
      | succ i => exact a2 i
    · cases i with
      | zero => cases hi
      | succ i =>
        cases j with
        | zero => cases hj
        | succ j => rw [a3 i j p hi hj]
    · cases i with
      | zero =>
        have e : slB t = s := by simpa [goX] using e
        exact ⟨_, t, rfl, .inr ⟨e.symm, _, h⟩⟩
      | succ i => exact a4 i s e
  | _, _, _, _, .x (t := t) (fp := fp) (fq := fq) h k, nd => by
    obtain ⟨n1, n2, n3⟩ := List.nodup_append.mp nd
    obtain ⟨φ, a1, a2, a3, a4⟩ := k.split n2
    refine ⟨fun i => match i with | 0 => fq | i + 1 => φ i, fun i p hp => ?_, fun i => ?_, fun i j p hi hj => ?_, fun i s e => ?_⟩
    · cases i with
      | zero => exact List.mem_append_left _ hp
      | succ i => exact List.mem_append_right _ (a1 i p hp)
    · cases i with
      | zero => exact n1
      | succ i => exact a2 i
    · cases i with
      | zero =>
        cases j with
        | zero => rfl
        | succ j => exact absurd rfl (n3 p hi p (a1 j p hj))
      | succ i =>
        cases j with
        | zero => exact absurd rfl (n3 p hj p (a1 i p hi))
        | succ j => rw [a3 i j p hi hj]
    · cases i with
      | zero =>
        have e : slOf t = s := by simpa [goX] using e
        exact ⟨_, t, rfl, .inl ⟨e.symm, h⟩⟩
      | succ i => exact a4 i s e
theorem goX_len : ∀ {ms : List Bool} {ts : List Tv}, ms.length = ts.length → (goX ms ts).length = ts.length
  | [], [], _ => rfl
  | m :: ms, t :: ts, h => by
    show (goX ms ts).length + 1 = _
    rw [goX_len (by simpa using h)]; rfl
theorem start_okX {F H0 H : Hp} {N : List Str} {ms : List Bool} {vs : List V} {ts : List Tv} {fp : List Addr} (s1 : Same F H0) (s2 : Same H0 H) (r : ArX K F H0 H ms vs ts fp) (nd : fp.Nodup) (h0 : ∀ p ∈ fp, H0 p = none) : StR K F H0 F H (start N vs) (startX N.length ms ts) := by
  obtain ⟨hl, hm⟩ := r.length
  obtain ⟨φ, a1, a2, a3, a4⟩ := r.split nd
  have gl := goX_len hm
  have gd : ∀ (j : Nat) (y : Sl), (startX N.length ms ts)[j]? = some (some y) → (goX ms ts)[j]? = some (some y) := fun j y e => by
    unfold startX at e
    by_cases hj : j < (goX ms ts).length
    · rw [List.getElem?_append_left hj] at e; exact e
    · rw [List.getElem?_append_right (by omega), List.getElem?_replicate] at e
      split at e <;> cases e
  have val : ∀ (j : Nat) (v : V), vs[j]? = some v → (L2.start N vs)[j]? = some (some v) := fun j v e => by
    unfold L2.start
    rw [List.getElem?_append_left (by simpa using (List.getElem?_eq_some_iff.mp e).1), List.getElem?_map, e]
    rfl
  refine ⟨φ, ⟨Same.refl F, s1.trans s2, s2, fun _ h => .inl h⟩, ?_, fun i x e => ?_, fun i x e => ?_, fun i p h => ?_, a2, a3, fun i x e => ?_, fun i x e => ?_⟩
  · unfold L2.start startX; simp [hl, gl]
  · obtain ⟨v, t, b1, b2⟩ := a4 i _ (gd i _ e)
    rcases b2 with ⟨e1, tv⟩ | ⟨e1, fq, tv⟩
    · cases t with
      | fr d =>
        cases e1
        generalize φ i = fp at tv
        cases tv with
        | fr tv => exact ⟨v, val i v b1, tv⟩
      | _ => cases e1
    · cases t with
      | fr d =>
        cases e1
        cases tv with
        | fr tv => exact ⟨v, val i v b1, tv⟩
      | _ => cases e1
  · obtain ⟨v, t, b1, b2⟩ := a4 i _ (gd i _ e)
    rcases b2 with ⟨e1, tv⟩ | ⟨e1, fq, tv⟩
    · cases t with
      | fr d => cases e1
      | _ => cases e1; exact ⟨v, val i v b1, tv⟩
    · cases t <;> cases e1
  · have hp := a1 i p h
    exact ⟨h0 p hp, s1.free (h0 p hp), r.nt p hp⟩
  · obtain ⟨v, t, b1, b2⟩ := a4 i _ (gd i _ e)
    rcases b2 with ⟨e1, _⟩ | ⟨e1, _⟩ <;> cases t <;> cases e1
  · obtain ⟨v, t, b1, b2⟩ := a4 i _ (gd i _ e)
    rcases b2 with ⟨e1, tv⟩ | ⟨e1, fq, tv⟩
    · cases t <;> cases e1
    · cases t with
      | fr d => cases e1
      | _ => cases e1; exact ⟨v, fq, val i v b1, tv⟩
theorem out_ok {F0 H0 F H : Hp} {σ : L2.St} {ρ : Rho} {φ : Nat → List Addr} (S : StF K F0 H0 F H σ ρ φ) : ∀ {ms : List Bool} {vs : List V} {ρ' : Rho} {ts : List Tv} (k : Nat), (∀ i, ρ'[i]? = ρ[k + i]?) → (∀ i ∈ trk k ms, ∃ v, σ[i]? = some (some v) ∧ vs[i - k]? = some v) → vs.length = ms.length →
    outX ms ρ' = some ts → ∃ fp, XpX K F H ms vs ts fp ∧ fp.Nodup ∧ ∀ p ∈ fp, ∃ i, k ≤ i ∧ p ∈ φ i
  | [], [], _, ts, k, _, _, _, e => by cases e; exact ⟨[], .nil, List.nodup_nil, fun p h => by cases h⟩
  | [], _ :: _, _, _, _, _, _, hl, _ => by cases hl
  | _ :: _, [], _, _, _, _, _, hl, _ => by cases hl
  | false :: ms, v :: vs, ρ', ts, k, hr, hk, hl, e => by
    cases ρ' with
    | nil => cases e
    | cons y ρ' =>
      obtain ⟨fp, a, b, c⟩ := out_ok S (ms := ms) (vs := vs) (ρ' := ρ') (ts := ts) (k + 1) (fun i => by
        have := hr (i + 1)
        rw [List.getElem?_cons_succ] at this
        rw [this]; congr 1; omega) (fun i hi => by
        obtain ⟨w, h1, h2⟩ := hk i hi
        refine ⟨w, h1, ?_⟩
        have : k + 1 ≤ i := trk_ge hi
        have e : i - k = (i - (k + 1)) + 1 := by omega
        rw [e] at h2
        exact h2) (by simpa using hl) e
      exact ⟨fp, .b a, b, fun p hp => let ⟨i, h1, h2⟩ := c p hp; ⟨i, by omega, h2⟩⟩
  | true :: ms, v :: vs, ρ', ts, k, hr, hk, hl, e => by
    cases ρ' with
    | nil => cases e
    | cons y ρ' =>
      have y0 : ρ[k]? = some y := by have := hr 0; rw [Nat.add_zero] at this; rw [← this]; rfl
      obtain ⟨w, hw1, hw2⟩ := hk k (by show k ∈ k :: trk (k + 1) ms; exact List.mem_cons_self)
      rw [Nat.sub_self] at hw2
      cases hw2
      have rest : ∀ {ts' : List Tv}, outX ms ρ' = some ts' → ∃ fp, XpX K F H ms vs ts' fp ∧ fp.Nodup ∧ ∀ p ∈ fp, ∃ i, k + 1 ≤ i ∧ p ∈ φ i := fun {ts'} e' => out_ok S (ms := ms) (vs := vs) (ρ' := ρ') (ts := ts') (k + 1) (fun i => by
        have := hr (i + 1)
        rw [List.getElem?_cons_succ] at this
        rw [this]; congr 1; omega) (fun i hi => by
        obtain ⟨w, h1, h2⟩ := hk i (by show i ∈ k :: trk (k + 1) ms; exact List.mem_cons_of_mem _ hi)
        refine ⟨w, h1, ?_⟩
        have : k + 1 ≤ i := trk_ge hi
        have e : i - k = (i - (k + 1)) + 1 := by omega
        rw [e] at h2
        exact h2) (by simpa using hl) e'
      cases y with
      | none => cases e
      | some y =>
        cases y with
        | l _ => cases e
        | b _ => cases e
        | d d =>
          have e : (outX ms ρ').map (.fr d :: ·) = some ts := e
          cases eo : outX ms ρ' with
          | none => rw [eo] at e; cases e
          | some ts' =>
            rw [eo] at e
            cases e
            obtain ⟨fp, a, b, c⟩ := rest eo
            obtain ⟨w', h1, h2⟩ := S.dat k d y0
            rw [hw1] at h1; cases h1
            exact ⟨[] ++ fp, .x (.fr h2) a, b, fun p hp => let ⟨i, h1, h2⟩ := c p hp; ⟨i, by omega, h2⟩⟩
        | t x =>
          have e : (outX ms ρ').map (x :: ·) = some ts := e
          cases eo : outX ms ρ' with
          | none => rw [eo] at e; cases e
          | some ts' =>
            rw [eo] at e
            cases e
            obtain ⟨fp, a, b, c⟩ := rest eo
            obtain ⟨w', h1, h2⟩ := S.tre k x y0
            rw [hw1] at h1; cases h1
            refine ⟨φ k ++ fp, .x h2 a, List.nodup_append.mpr ⟨S.nod k, b, fun p hp q hq z => ?_⟩, fun p hp => ?_⟩
            · subst z
              obtain ⟨i, h1, h2⟩ := c p hq
              have := S.dis k i p hp h2
              omega
            · rcases List.mem_append.mp hp with z | z
              · exact ⟨k, Nat.le_refl k, z⟩
              · obtain ⟨i, h1, h2⟩ := c p z
                exact ⟨i, by omega, h2⟩
where trk_ge : ∀ {ms : List Bool} {k i : Nat}, i ∈ trk k ms → k ≤ i
  | [], _, _, h => by cases h
  | true :: ms, k, i, h => by
    rcases List.mem_cons.mp h with z | z
    · omega
    · have := trk_ge z; omega
  | false :: ms, k, i, h => by
    have : k + 1 ≤ i := trk_ge (ms := ms) h
    omega
def FinX (K : PySem.W.Frag) (W : WX) (F0 H0 : Hp) (ms : List Nat) (σ0 : L2.St) (D : Ends) : SX → Prop
  | .nx ρ => ∀ σ F H, StR K F0 H0 F H σ ρ → Kpt ms σ0 σ → D.nx σ H
  | .bk ρ => ∀ σ F H, StR K F0 H0 F H σ ρ → Kpt ms σ0 σ → D.bk σ H
  | .ct ρ => ∀ σ F H, StR K F0 H0 F H σ ρ → Kpt ms σ0 σ → D.ct σ H
  | .rt (.d x) ρ => ∀ v σ F H φ, StF K F0 H0 F H σ ρ φ → Kpt ms σ0 σ → Dp K F v x → D.rt v H
  | .rt (.t x) ρ => ∀ v fp σ F H φ, StF K F0 H0 F H σ ρ φ → Kpt ms σ0 σ → TvAt K F H fp v x → fp.Nodup → (∀ p ∈ fp, H0 p = none ∧ F p = none) → (∀ j p, p ∈ φ j → p ∉ fp) → D.rt v H
  | .rt _ _ => False
  | .exc c none => ∀ cls d σ F H, Ext F0 H0 F H → ExR K c cls d H → W cls d σ H
  | .exc c (some ρ) => ∀ cls d σ F H, StR K F0 H0 F H σ ρ → Kpt ms σ0 σ → ExR K c cls d H → W cls d σ H
  | .bad => False
def TDX (K : PySem.W.Frag) (W : WX) (ms : List Nat) (t : TS) (s : Rho → SX) : Prop := ∀ (F0 H0 F H : Hp) (σ0 σ : L2.St) (ρ : Rho) (D : Ends), StR K F0 H0 F H σ ρ → Kpt ms σ0 σ → FinX K W F0 H0 ms σ0 D (s ρ) → t D σ H
theorem fnX {P : Program} {w : World} {mg : Str → Option Value} {base : Heap} {x qual : Str} {params : Arguments} {body : List Stmt} {scope : Scope} {f : Addr} {fd : FuncData} {N ps : List Str} {k : Nat} {s : Rho → SX} {ms : List Bool}
    (F : FunD K x qual params body scope [] [] f fd) (S : FnScope N ps scope) (hm : ps.length = ms.length)
    (hb : ∀ (cdv : Value) (A : Around) (outer : List Env) (sh : Shared) (H : Hp) (E : XK), Room k (A.deeper (envOfC qual scope sh.heap.objs.size f cdv)) →
      Takes (cxOf (L2.CX P w) P w K mg base N qual scope f cdv A outer sh H E) (fun cls d _ H => E cls d H) →
      ∃ t, PSs (cxOf (L2.CX P w) P w K mg base N qual scope f cdv A outer sh H E) body t ∧ TDX K (fun cls d _ H => E cls d H) (trk 0 ms) t s) : FnOk P w K mg base (L2.CX P w) (k + 1) f fd ps (spX K ms (runX N.length ms s)) := by
  refine F.ok S (fun vs H Q E h => h.1.trans hm.symm) (fun cdv A outer sh H vs Q E hr h => ?_)
  obtain ⟨hl, F0, H0, fp, ts, s1, s2, ht, nd, h0, hq⟩ := h
  obtain ⟨t, h1, h2⟩ := hb cdv A outer sh H E hr (takes_of rfl rfl rfl (E₁ := _) rfl)
  refine ⟨t, h1, h2 F0 H0 F0 H (L2.start N vs) _ _ _ (start_okX s1 s2 ht nd h0) Kpt.refl ?_⟩
  have fin : ∀ {σ : L2.St} {F1 H1 : Hp} {ρ : Rho} {φ : Nat → List Addr} {ts' : List Tv}, StF K F0 H0 F1 H1 σ ρ φ → Kpt (trk 0 ms) (L2.start N vs) σ → outX ms ρ = some ts' → ∃ fp, XpQ K H0 ms vs ts' F1 H1 fp ∧ ∀ p ∈ fp, ∃ i, p ∈ φ i := fun {σ F1 H1 ρ φ ts'} S1 kp eo => by
    obtain ⟨fp, a, b, c⟩ := out_ok S1 (ms := ms) (vs := vs) 0 (fun i => by rw [Nat.zero_add]) (fun i hi => by
      have hk := kp i hi
      have hi2 : i < vs.length := by have := trk_lt 0 hi; omega
      have hv : vs[i]? = some vs[i] := List.getElem?_eq_getElem hi2
      refine ⟨vs[i], ?_, by rw [Nat.sub_zero]; exact hv⟩
      rw [hk]
      unfold L2.start
      rw [List.getElem?_append_left (by simpa using hi2), List.getElem?_map, hv]
      rfl) hl eo
    exact ⟨fp, ⟨a, b, fun p hp => let ⟨i, _, hi⟩ := c p hp; ⟨(S1.fre i p hi).1, (S1.fre i p hi).2.1⟩⟩, fun p hp => let ⟨i, _, hi⟩ := c p hp; ⟨i, hi⟩⟩
  unfold runX endX at hq
  cases e : s (startX N.length ms ts) with
  | nx ρ =>
    rw [e] at hq
    intro σ F1 H1 S1 kp
    obtain ⟨φ, S1⟩ := S1
    cases eo : outX ms ρ with
    | none => simp only [eo] at hq; exact hq.elim
    | some ts' =>
      simp only [eo] at hq
      obtain ⟨fp, xp, _⟩ := fin S1 kp eo
      exact hq .non F1 H1 fp S1.ext .non xp
  | bk ρ => rw [e] at hq; exact hq.elim
  | ct ρ => rw [e] at hq; exact hq.elim
  | rt s ρ =>
    rw [e] at hq
    cases eo : outX ms ρ with
    | none => simp only [eo] at hq; exact hq.elim
    | some ts' =>
      simp only [eo] at hq
      cases s with
      | d x =>
        intro v σ F1 H1 φ S1 kp r
        obtain ⟨fp, xp, _⟩ := fin S1 kp eo
        exact hq v F1 H1 fp S1.ext r xp
      | t x =>
        intro v fq σ F1 H1 φ S1 kp r nq hfq dj
        obtain ⟨fp, xp, sub⟩ := fin S1 kp eo
        exact hq v fq F1 H1 fp S1.ext r nq hfq xp fun p hp => let ⟨i, hi⟩ := sub p hp; dj i p hi
      | l x => exact hq
      | b x => exact hq
  | exc c o =>
    rw [e] at hq
    cases o with
    | none => exact fun cls d σ F1 H1 ex r => hq cls d F1 H1 ex r
    | some ρ =>
      intro cls d σ F1 H1 S1 kp r
      obtain ⟨φ, S1⟩ := S1
      cases eo : outX ms ρ with
      | none => simp only [eo] at hq; exact hq cls d F1 H1 S1.ext r
      | some ts' =>
        simp only [eo] at hq
        obtain ⟨fp, xp, _⟩ := fin S1 kp eo
        exact hq cls d F1 H1 fp S1.ext r xp
  | bad => rw [e] at hq; exact hq.elim
where trk_lt : ∀ {ms : List Bool} (k : Nat) {i : Nat}, i ∈ trk k ms → i < k + ms.length
  | [], _, _, h => by cases h
  | true :: ms, k, i, h => by
    rcases List.mem_cons.mp h with z | z
    · rw [List.length_cons]; omega
    · have := trk_lt (k + 1) z; rw [List.length_cons]; omega
  | false :: ms, k, i, h => by
    have : i < k + 1 + ms.length := trk_lt (ms := ms) (k + 1) h
    rw [List.length_cons]; omega
end
end DL
namespace DL
open PySem PySem.Spec PyProof.Rows L2
def SX.seq (a : SX) (k : Rho → SX) : SX := match a with
  | .nx ρ => k ρ
  | s => s
def SX.of {α : Type} (ρ : Rho) (r : R α) (k : α → SX) : SX := match r with
  | .ok a => k a
  | .exc c => .exc c (some ρ)
  | .bad => .bad
def SX.lift : SR → SX
  | .nx ρ => .nx ρ
  | .bk ρ => .bk ρ
  | .ct ρ => .ct ρ
  | .exc c => .exc c none
  | _ => .bad
section
variable {K : PySem.W.Frag} {W : WX} {t u : TS} {te ta tv : TE} {tt : TT} {g : Rho → R PD} {gt : Rho → R Bool} {ms vs : List Nat} {gm : Rho → R Tv} {s s' : Rho → SX}
theorem FinX.of {α : Type} {F0 H0 F H : Hp} {σ0 σ : L2.St} {ρ : Rho} {D : Ends} {r : R α} {k : α → SX} {P : α → Hp → Hp → Prop} (S : StR K F0 H0 F H σ ρ) (kp : Kpt ms σ0 σ) (h : FinX K W F0 H0 ms σ0 D (SX.of ρ r k)) (f : ∀ x F1 H1, Ext F H F1 H1 → FinX K W F0 H0 ms σ0 D (k x) → P x F1 H1) : Fin K W σ F H r P := by
  cases r with
  | ok x => exact fun F1 H1 e => f x F1 H1 e h
  | exc c => exact fun cls d F1 H1 e q => h cls d σ F1 H1 (S.go e) kp q
  | bad => exact h
def xLift (s : Rho → SR) : Rho → SX := fun ρ => SX.lift (s ρ)
theorem xs_of {s : Rho → SR} (h : TDS K W t s) (k : Kp ms t) : TDX K W ms t (xLift s) := fun F0 H0 F H σ0 σ ρ D S kp q => by
  have e : t ⟨fun σ' H' => Kpt ms σ σ' → D.nx σ' H', D.rt, fun σ' H' => Kpt ms σ σ' → D.bk σ' H', fun σ' H' => Kpt ms σ σ' → D.ct σ' H'⟩ σ H := by
    refine h F0 H0 F H σ ρ _ S ?_
    unfold xLift at q
    cases es : s ρ with
    | nx ρ1 => rw [es] at q; exact fun σ1 F1 H1 S1 k1 => q σ1 F1 H1 S1 (kp.trans k1)
    | bk ρ1 => rw [es] at q; exact fun σ1 F1 H1 S1 k1 => q σ1 F1 H1 S1 (kp.trans k1)
    | ct ρ1 => rw [es] at q; exact fun σ1 F1 H1 S1 k1 => q σ1 F1 H1 S1 (kp.trans k1)
    | rt x => rw [es] at q; exact q.elim
    | exc c => rw [es] at q; exact q
    | bad => rw [es] at q; exact q
  have cut : ∀ {P : L2.St → Hp → Prop}, kpP ms σ (fun σ' H' => Kpt ms σ σ' → P σ' H') = kpP ms σ P := fun {P} => kp_cut fun σ' H' k1 => ⟨fun z => z k1, fun z _ => z⟩
  exact (k.eqv (D := ⟨fun σ' H' => Kpt ms σ σ' → D.nx σ' H', D.rt, fun σ' H' => Kpt ms σ σ' → D.bk σ' H', fun σ' H' => Kpt ms σ σ' → D.ct σ' H'⟩) (D' := D) cut rfl cut cut).mp e
def xSeq (s s' : Rho → SX) : Rho → SX := fun ρ => (s ρ).seq s'
theorem xs_seq (h : TDX K W ms t s) (h' : TDX K W ms u s') : TDX K W ms (tSeq t u) (xSeq s s') := fun F0 H0 F H σ0 σ ρ D S kp q => by
  refine h F0 H0 F H σ0 σ ρ _ S kp ?_
  unfold xSeq at q
  cases es : s ρ with
  | nx ρ1 => rw [es] at q; exact fun σ1 F1 H1 S1 k1 => h' F0 H0 F1 H1 σ0 σ1 ρ1 D S1 k1 q
  | bk ρ1 => rw [es] at q; exact q
  | ct ρ1 => rw [es] at q; exact q
  | rt x ρ1 => rw [es] at q; cases x <;> exact q
  | exc c o => rw [es] at q; cases o <;> exact q
  | bad => rw [es] at q; exact q
def xIf (gt : Rho → R Bool) (s s' : Rho → SX) : Rho → SX := fun ρ => SX.of ρ (gt ρ) fun c => if c = true then s ρ else s' ρ
theorem xs_if (ht : TDt K W tt gt) (h : TDX K W ms t s) (h' : TDX K W ms u s') : TDX K W ms (tIfS tt t u) (xIf gt s s') := fun F0 H0 F H σ0 σ ρ D S kp q =>
  ht F0 H0 F H σ ρ _ S (q.of S kp fun c F1 H1 e k => by
    cases c with
    | true => exact h F0 H0 F1 H1 σ0 σ ρ D (S.go e) kp k
    | false => exact h' F0 H0 F1 H1 σ0 σ ρ D (S.go e) kp k)
def raiseX (x : Str) (ns : List Str) (ρ : Rho) (ds : List PD) : SX := match dvs ds with
  | some us => if us.length = ns.length ∧ us.length ≤ 1000 then .exc ⟨x, fsOf ns us []⟩ (some ρ) else .bad
  | none => .bad
def xRaise (x : Str) (ns : List Str) (gr : Rho → R (List PD)) : Rho → SX := fun ρ => SX.of ρ (gr ρ) (raiseX x ns ρ)
theorem xs_raise {tr : TA} {gr : Rho → R (List PD)} (x : Str) (ns : List Str) (h : TDa K W tr gr) :
    TDX K W ms (fun _ σ H => tMkO (He.ga K x) (spI (He.ga K x) ns) [] tr σ H fun cls d H' => W cls d σ H') (xRaise x ns gr) := fun F0 H0 F H σ0 σ ρ D S kp q =>
  h F0 H0 F H σ ρ _ S (q.of S kp fun ds F1 H1 e1 k1 vs rs => by
    have S1 := S.go e1
    unfold raiseX at k1
    split at k1
    · rename_i us eu
      split at k1
      · rename_i hl
        have := dvs_ok eu rs
        subst this
        refine ⟨hl.2, fun a ha => ⟨a, vs, by rw [List.append_nil], hl.1, upd_same, fun dx h1 h2 => ?_⟩⟩
        have hd : H1 dx = none := by rw [upd_ne h2] at h1; exact h1
        refine ⟨rfl, dx, fsOf ns vs [], upd_same, by rw [upd_ne h2, upd_same], hd, ?_⟩
        have e2 : upd (del (upd (upd (upd H1 a (exo a (He.ga K x) none)) dx (exd dx (fsOf ns vs []))) a (exo a (He.ga K x) (some dx))) a) dx (.xd (fsOf ns vs [])) = upd H1 dx (.xd (fsOf ns vs [])) := by
          funext b
          by_cases hb : b = dx
          · subst hb; rw [upd_same, upd_same]
          · rw [upd_ne hb, upd_ne hb]
            by_cases hb2 : b = a
            · subst hb2; rw [del_same, ha]
            · rw [del_ne hb2, upd_ne hb2, upd_ne hb, upd_ne hb2]
        rw [e2]
        exact k1 _ _ σ F1 _ (S1.go (Ext.own S1.same hd)) kp ⟨rfl, .inr ⟨dx, rfl, upd_same⟩⟩
      · exact k1.elim
    · exact k1.elim)
inductive AK where
  | e
  | b (j : Nat)
  | x (i : Nat)
  | m
def AK.isX : AK → Bool
  | .x _ => true
  | .m => true
  | _ => false
def Ak1 (K : PySem.W.Frag) (F' H' H0 : Hp) (σ : L2.St) (φ : Nat → List Addr) (k : AK) (u : V) (t : Tv) (fq : List Addr) : Prop := match k with
  | .e => fq = [] ∧ ∃ d, t = .fr d ∧ Dp K F' u d
  | .b j => fq = [] ∧ ∃ fz, TvAt K F' H' fz u t ∧ ∀ p ∈ fz, p ∈ φ j ∨ H0 p ≠ none
  | .x i => σ[i]? = some (some u) ∧ TvAt K F' H' fq u t
  | .m => TvAt K F' H' fq u t
inductive AkX (K : PySem.W.Frag) (F' H' H0 : Hp) (σ : L2.St) (φ : Nat → List Addr) : List AK → List V → List Tv → List Addr → Prop
  | nil : AkX K F' H' H0 σ φ [] [] [] []
  | cons {k : AK} {ks : List AK} {u : V} {us : List V} {t : Tv} {ts : List Tv} {fq fp : List Addr} : Ak1 K F' H' H0 σ φ k u t fq → AkX K F' H' H0 σ φ ks us ts fp → AkX K F' H' H0 σ φ (k :: ks) (u :: us) (t :: ts) (fq ++ fp)
def TDx1 (K : PySem.W.Frag) (W : WX) (k : AK) (vs : List Nat) (te : TE) (g : Rho → R Tv) : Prop := ∀ (F0 H0 F H : Hp) (σ : L2.St) (ρ : Rho) (φ : Nat → List Addr) (Q : VK), StF K F0 H0 F H σ ρ φ →
  Fin K W σ F H (g ρ) (fun t F' H' => ∀ u fq, Ak1 K F' H' H0 σ φ k u t fq → fq.Nodup → (∀ p ∈ fq, F' p = none ∧ (H p = none ∨ ∃ i ∈ vs, p ∈ φ i)) → Q u H') → te σ H Q
def TDxa (K : PySem.W.Frag) (W : WX) (ks : List AK) (vs : List Nat) (t : TA) (g : Rho → R (List Tv)) : Prop := ∀ (F0 H0 F H : Hp) (σ : L2.St) (ρ : Rho) (φ : Nat → List Addr) (Q : List V → Hp → Prop), StF K F0 H0 F H σ ρ φ →
  Fin K W σ F H (g ρ) (fun ts F' H' => ∀ us fp, AkX K F' H' H0 σ φ ks us ts fp → fp.Nodup → (∀ p ∈ fp, F' p = none ∧ (H p = none ∨ ∃ i ∈ vs, p ∈ φ i)) → Q us H') → t σ H Q
theorem x1_e (h : TDe K W te g) : TDx1 K W .e [] te (mFr g) := fun F0 H0 F H σ ρ φ Q S q =>
  h F0 H0 F H σ ρ Q ⟨φ, S⟩ (q.then fun d F1 H1 e k v rv => (Fin.okk (x := Tv.fr d) K W σ e.g k) v [] ⟨rfl, d, rfl, rv⟩ List.nodup_nil fun p hp => by cases hp)
theorem x1_x (i : Nat) : TDx1 K W (.x i) [i] (tVar i) (mVar i) := fun F0 H0 F H σ ρ φ Q S q => by
  unfold mVar at q
  split at q
  · rename_i x e
    obtain ⟨v, a, b⟩ := S.dat i x e
    exact ⟨v, a, (q.ok S.same) v [] ⟨a, .fr b⟩ List.nodup_nil fun p hp => by cases hp⟩
  · rename_i x e
    obtain ⟨v, a, b⟩ := S.tre i x e
    exact ⟨v, a, (q.ok S.same) v (φ i) ⟨a, b⟩ (S.nod i) fun p hp => ⟨(S.fre i p hp).2.1, .inr ⟨i, by simp, hp⟩⟩⟩
  · exact q.elim
theorem x1_b (j : Nat) {tp : TE} {gp : Rho → R (List Nat)} (hp : TDp2 K W j tp gp) : TDx1 K W (.b j) [] tp (atP j gp) := fun F0 H0 F H σ ρ φ Q S q => by
  unfold atP at q
  cases hx : treeOf ρ j with
  | none => rw [hx] at q; exact q.elim
  | some x =>
    rw [hx] at q
    have root : ∃ v fp, σ[j]? = some (some v) ∧ TvAt K F H fp v x ∧ ∀ p ∈ fp, p ∈ φ j ∨ H0 p ≠ none := by
      unfold treeOf at hx
      split at hx
      · rename_i e
        cases hx
        obtain ⟨v, a, b⟩ := S.tre j _ e
        exact ⟨v, _, a, b, fun p hp => .inl hp⟩
      · rename_i e
        cases hx
        obtain ⟨v, fp, a, b⟩ := S.bor j _ e
        exact ⟨v, fp, a, b.keep (Same.refl F) (KeepOn.same S.ext.h), fun p hp => .inr fun z => by obtain ⟨o, ho, _⟩ := b.nt p hp; rw [z] at ho; cases ho⟩
      · cases hx
    obtain ⟨v, fp, hv, tv, own⟩ := root
    refine hp F0 H0 F H σ ρ x v _ ⟨φ, S⟩ hx hv ?_
    cases eg : gp ρ with
    | exc c => simp only [eg] at q; exact q
    | bad => simp only [eg] at q; exact q
    | ok ks =>
      simp only [eg] at q
      replace q : Fin K W σ F H (match x.at ks with | some t => R.ok t | none => R.bad) _ := q
      intro F1 H1 e1 u hu
      have tv1 : TvAt K F1 H1 fp v x := tv.keep e1.f (KeepOn.same e1.h)
      cases ek : x.at ks with
      | none => rw [ek] at q; exact q.elim
      | some t =>
        rw [ek] at q
        obtain ⟨u1, fz, g1, g2, g3⟩ := tvAt_get tv1 ek
        have := hu.det g1
        subst this
        exact q F1 H1 e1 u [] ⟨rfl, fz, g2, fun p hp => own p (g3 p hp)⟩ List.nodup_nil fun p hp => by cases hp
theorem Ak1.nt {F H H0 : Hp} {σ : L2.St} {φ : Nat → List Addr} {k : AK} {u : V} {t : Tv} {fq : List Addr} (h : Ak1 K F H H0 σ φ k u t fq) : ∀ p ∈ fq, ∃ o, H p = some o ∧ ¬ tupO o := by
  cases k with
  | e => obtain ⟨rfl, _⟩ := h; exact fun p hp => by cases hp
  | b j => obtain ⟨rfl, _⟩ := h; exact fun p hp => by cases hp
  | x i => exact h.2.nt
  | m => exact TvAt.nt h
theorem Ak1.go {F H H0 F' H' : Hp} {σ : L2.St} {φ : Nat → List Addr} {k : AK} {u : V} {t : Tv} {fq : List Addr} (e : Ext F H F' H') (h : Ak1 K F H H0 σ φ k u t fq) : Ak1 K F' H' H0 σ φ k u t fq := by
  cases k with
  | e => obtain ⟨a, d, b, c⟩ := h; exact ⟨a, d, b, c.mono e.f⟩
  | b j => obtain ⟨a, fz, b, c⟩ := h; exact ⟨a, fz, b.keep e.f (KeepOn.same e.h), c⟩
  | x i => exact ⟨h.1, h.2.keep e.f (KeepOn.same e.h)⟩
  | m => exact TvAt.keep e.f (KeepOn.same e.h) h
theorem AkX.nt {F H H0 : Hp} {σ : L2.St} {φ : Nat → List Addr} : ∀ {ks : List AK} {us : List V} {ts : List Tv} {fp : List Addr}, AkX K F H H0 σ φ ks us ts fp → ∀ p ∈ fp, ∃ o, H p = some o ∧ ¬ tupO o
  | _, _, _, _, .nil, p, hp => by cases hp
  | _, _, _, _, .cons h k, p, hp => by
    rcases List.mem_append.mp hp with z | z
    · exact h.nt p z
    · exact k.nt p z
def xaNil : Rho → R (List Tv) := fun _ => .ok []
theorem xa_nil : TDxa K W [] [] tNil xaNil := fun F0 H0 F H σ ρ φ Q S q => (q.ok S.same) [] [] .nil List.nodup_nil fun p hp => by cases hp
theorem xa_cons {k : AK} {ks : List AK} {ws : List Nat} {tr : TA} {gr : Rho → R (List Tv)} (ha : TDx1 K W k vs te gm) (hr : TDxa K W ks ws tr gr) (dj : ∀ i ∈ vs, i ∉ ws := by decide) : TDxa K W (k :: ks) (vs ++ ws) (tCons te tr) (maCons gm gr) := fun F0 H0 F H σ ρ φ Q S q =>
  ha F0 H0 F H σ ρ φ _ S (q.then fun a F1 H1 e1 k1 v fq av nd hp => hr F0 H0 F1 H1 σ ρ φ _ (S.go e1) (k1.then fun l F2 H2 e2 k2 us fp al nd2 hq => by
    refine (Fin.okk (x := a :: l) K W σ e2.g k2) _ (fq ++ fp) (.cons (av.go e2) al) ?_ ?_
    · refine List.nodup_append.mpr ⟨nd, nd2, fun p h1 r h2 z => ?_⟩
      subst z
      obtain ⟨o, ho, nt⟩ := av.nt p h1
      rcases (hq p h2).2 with y | ⟨j, hj, y⟩
      · rw [ho] at y; cases y
      · rcases (hp p h1).2 with x | ⟨i, hi, x⟩
        · obtain ⟨_, _, o', y2, _⟩ := S.fre j p y
          rw [x] at y2; cases y2
        · have := S.dis i j p x y
          subst this
          exact dj i hi hj
    · intro p h
      rcases List.mem_append.mp h with h | h
      · obtain ⟨o, ho, nt⟩ := av.nt p h
        exact ⟨e2.keep (hp p h).1 ho nt, (hp p h).2.imp id fun ⟨i, h1, h2⟩ => ⟨i, List.mem_append_left _ h1, h2⟩⟩
      · exact ⟨(hq p h).1, (hq p h).2.imp (fun z => e1.h.free z) fun ⟨i, h1, h2⟩ => ⟨i, List.mem_append_right _ h1, h2⟩⟩))
def backX : List AK → List Tv → Rho → Option Rho
  | [], [], ρ => some ρ
  | .x i :: ks, t :: ts, ρ => backX ks ts (ρ.set i (some (slOf t)))
  | .m :: ks, _ :: ts, ρ => backX ks ts ρ
  | .e :: ks, ts, ρ => backX ks ts ρ
  | .b _ :: ks, ts, ρ => backX ks ts ρ
  | _, _, _ => none
theorem back_ok {F0 H0 F H F1 H1 : Hp} {σ : L2.St} {φ0 : Nat → List Addr} : ∀ {ks : List AK} {us : List V} {xs ts' : List Tv} {fp fp2 : List Addr} {ρ : Rho} {φ : Nat → List Addr}, AkX K F1 H1 H0 σ φ0 ks us xs fp → XpX K F H (ks.map AK.isX) us ts' fp2 → fp2.Nodup → (∀ p ∈ fp2, H0 p = none ∧ F p = none) → StF K F0 H0 F H σ ρ φ → (∀ j p, p ∈ φ j → p ∉ fp2) →
    ∃ ρ', backX ks ts' ρ = some ρ' ∧ ∃ φ', StF K F0 H0 F H σ ρ' φ' ∧ ∀ j p, p ∈ φ' j → p ∈ φ j ∨ p ∈ fp2 := by
  intro ks
  induction ks with
  | nil =>
    intro us xs ts' fp fp2 ρ φ h x nd hf S dj
    cases x with
    | nil => exact ⟨ρ, rfl, φ, S, fun j p h => .inl h⟩
  | cons k ks ih =>
    intro us xs ts' fp fp2 ρ φ h x nd hf S dj
    cases h with
    | cons h1 h2 =>
      cases k with
      | e => cases x with | b x => exact ih h2 x nd hf S dj
      | b j => cases x with | b x => exact ih h2 x nd hf S dj
      | m =>
        cases x with
        | x tv x =>
          obtain ⟨n1, n2, n3⟩ := List.nodup_append.mp nd
          obtain ⟨ρ', e, φ', S', sub⟩ := ih h2 x n2 (fun p hp => hf p (List.mem_append_right _ hp)) S fun j p h1 h2 => dj j p h1 (List.mem_append_right _ h2)
          exact ⟨ρ', e, φ', S', fun j p h => (sub j p h).imp id (List.mem_append_right _)⟩
      | x i =>
        cases x with
        | @x _ _ _ t ts'' _ fq tv x =>
          obtain ⟨n1, n2, n3⟩ := List.nodup_append.mp nd
          have S1 := S.putT (i := i) tv n1 (fun p hp => hf p (List.mem_append_left _ hp)) fun j p _ h1 h2 => dj j p h1 (List.mem_append_left _ h2)
          rw [set_same h1.1] at S1
          obtain ⟨ρ', e, φ', S', sub⟩ := ih h2 x n2 (fun p hp => hf p (List.mem_append_right _ hp)) S1 fun j p h1 h2 => by
            by_cases c : j = i
            · subst c; rw [phi_same] at h1; exact n3 p h1 p h2 rfl
            · rw [phi_ne c] at h1; exact dj j p h1 (List.mem_append_right _ h2)
          refine ⟨ρ', e, φ', S', fun j p h => ?_⟩
          rcases sub j p h with z | z
          · by_cases c : j = i
            · subst c; rw [phi_same] at z; exact .inr (List.mem_append_left _ z)
            · rw [phi_ne c] at z; exact .inl z
          · exact .inr (List.mem_append_right _ z)
def bOk1 (vs : List Nat) : AK → Bool
  | .b j => !vs.contains j
  | _ => true
def bOk (ks : List AK) (vs : List Nat) : Bool := ks.all (bOk1 vs)
theorem akX_ar {F0 H0 F H F1 H1 : Hp} {σ : L2.St} {ρ : Rho} {φ : Nat → List Addr} {fpA : List Addr} (S : StF K F0 H0 F H σ ρ φ) (hA : ∀ p ∈ fpA, F1 p = none ∧ (H p = none ∨ ∃ i ∈ vs, p ∈ φ i)) (nt : ∀ p ∈ fpA, ∃ o, H1 p = some o ∧ ¬ tupO o) : ∀ {ks : List AK} {us : List V} {ts : List Tv} {fp : List Addr}, AkX K F1 H1 H0 σ φ ks us ts fp → bOk ks vs = true → ArX K F1 (cutL H1 fpA) H1 (ks.map AK.isX) us ts fp
  | [], _, _, _, .nil, _ => .nil
  | k :: ks, _, _, _, .cons h r, hb => by
    have hb2 : bOk1 vs k = true ∧ bOk ks vs = true := by
      have : (k :: ks).all (bOk1 vs) = true := hb
      rw [List.all_cons, Bool.and_eq_true] at this
      exact this
    have ih := akX_ar S hA nt r hb2.2
    cases k with
    | e =>
      obtain ⟨rfl, d, rfl, h⟩ := h
      exact .b (.fr h) ih
    | b j =>
      obtain ⟨rfl, fz, h, own⟩ := h
      refine .b (h.keep (Same.refl F1) fun p o ho hc => ?_) ih
      rw [cutL_out]
      · exact ho
      · intro hin
        rcases hc with hc | hc
        · rcases own p hc with z | z
          · rcases (hA p hin).2 with y | ⟨i, hi, y⟩
            · obtain ⟨_, _, o', y2, _⟩ := S.fre j p z
              rw [y] at y2; cases y2
            · have := S.dis i j p y z
              subst this
              have : (!vs.contains i) = true := hb2.1
              have c : vs.contains i = true := List.contains_iff_mem.mpr hi
              rw [c] at this; cases this
          · rcases (hA p hin).2 with y | ⟨i, hi, y⟩
            · exact z (S.ext.h.free y)
            · exact z (S.fre i p y).1
        · obtain ⟨o', ho', n⟩ := nt p hin
          rw [ho] at ho'; cases ho'; exact n hc
    | x i => exact .x h.2 ih
    | m => exact .x h ih
def CallX (K : PySem.W.Frag) (F0 H0 : Hp) (σ : L2.St) (ks : List AK) (ρ1 : Rho) (Q : VK) (E : XK) : XR → Prop
  | .rt (.d x) ts => ∀ ρ', backX ks ts ρ1 = some ρ' → ∀ v F H φ, StF K F0 H0 F H σ ρ' φ → Dp K F v x → Q v H
  | .rt (.t x) ts => ∀ ρ', backX ks ts ρ1 = some ρ' → ∀ v F H φ, StF K F0 H0 F H σ ρ' φ → ∀ fq, TvAt K F H fq v x → fq.Nodup → (∀ p ∈ fq, H0 p = none ∧ F p = none) → (∀ j p, p ∈ φ j → p ∉ fq) → Q v H
  | .rt _ _ => False
  | .exc c (some ts) => ∀ ρ', backX ks ts ρ1 = some ρ' → ∀ cls d F H, StR K F0 H0 F H σ ρ' → ExR K c cls d H → E cls d H
  | .exc c none => ∀ cls d F H, Ext F0 H0 F H → ExR K c cls d H → E cls d H
  | .bad => False
theorem callX_ok {F0 H0 F H F1 H1 : Hp} {σ : L2.St} {ρ : Rho} {φ : Nat → List Addr} {ks : List AK} {us : List V} {ts : List Tv} {fp : List Addr} {f : List Tv → XR} {Q : VK} {E : XK} {ms : List Bool} (hms : ks.map AK.isX = ms) (hb : bOk ks vs = true) (S : StF K F0 H0 F H σ ρ φ) (e1 : Ext F H F1 H1) (hk : AkX K F1 H1 H0 σ φ ks us ts fp) (nd : fp.Nodup) (hp : ∀ p ∈ fp, F1 p = none ∧ (H p = none ∨ ∃ i ∈ vs, p ∈ φ i))
    (h : CallX K F0 H0 σ ks (killD ρ vs) Q E (f ts)) : spX K ms f us H1 Q E := by
  subst hms
  have ar := akX_ar S hp hk.nt hk hb
  have h1 : Same F1 (cutL H1 fp) := fun p u e => by rw [cutL_out (fun z => by rw [(hp p z).1] at e; cases e)]; exact e1.g p u e
  refine ⟨ar.length.1.trans ar.length.2.symm, F1, cutL H1 fp, fp, ts, h1, cutL_same, ar, nd, fun p hq => cutL_in hq, ?_⟩
  have base0 : ∀ {p : Addr}, cutL H1 fp p = none → H0 p = none := fun {p} z => by
    by_cases hin : p ∈ fp
    · rcases (hp p hin).2 with y | ⟨i, _, y⟩
      · exact S.ext.h.free y
      · exact (S.fre i p y).1
    · rw [cutL_out hin] at z
      exact S.ext.h.free (e1.h.free z)
  have apart : ∀ {F2 : Hp} {fq : List Addr}, (∀ p ∈ fq, cutL H1 fp p = none ∧ F2 p = none) → ∀ j p, p ∈ phis φ vs j → p ∉ fq := fun {F2 fq} hq j p hj hin => by
    obtain ⟨n1, n2⟩ := phis_mem hj
    obtain ⟨_, _, o, c, _⟩ := (S.go e1).fre j p n2
    have := (hq p hin).1
    rw [cutL_out (fun z => by
      rcases (hp p z).2 with y | ⟨i', hi, y⟩
      · obtain ⟨_, _, o', y', _⟩ := S.fre j p n2
        rw [y] at y'; cases y'
      · have := S.dis i' j p y n2
        subst this
        exact n1 hi), c] at this
    cases this
  have back : ∀ {F2 H2 : Hp} {ts' : List Tv} {fp2 : List Addr}, Ext F1 (cutL H1 fp) F2 H2 → XpQ K (cutL H1 fp) (ks.map AK.isX) us ts' F2 H2 fp2 → ∃ ρ', backX ks ts' (killD ρ vs) = some ρ' ∧ ∃ φ', StF K F0 H0 F2 H2 σ ρ' φ' ∧ ∀ j p, p ∈ φ' j → p ∈ phis φ vs j ∨ p ∈ fp2 := fun {F2 H2 ts' fp2} ex xp =>
    back_ok hk xp.x xp.n (fun p hq => ⟨base0 (xp.f p hq).1, (xp.f p hq).2⟩) (S.given e1 hp hk.nt ex) (apart xp.f)
  cases ef : f ts with
  | rt s ts' =>
    rw [ef] at h
    cases s with
    | d x =>
      intro v F2 H2 fp2 ex r xp
      obtain ⟨ρ', e, φ', S', _⟩ := back ex xp
      exact h ρ' e v F2 H2 φ' S' r
    | t x =>
      intro v fq F2 H2 fp2 ex tv nq hfq xp dj
      obtain ⟨ρ', e, φ', S', sub⟩ := back ex xp
      refine h ρ' e v F2 H2 φ' S' fq tv nq (fun p hq => ⟨base0 (hfq p hq).1, (hfq p hq).2⟩) fun j p hj hin => ?_
      rcases sub j p hj with z | z
      · exact apart hfq j p z hin
      · exact dj p z hin
    | l x => exact h
    | b x => exact h
  | exc c o =>
    rw [ef] at h
    cases o with
    | none =>
      intro cls d F2 H2 ex r
      exact h cls d F2 H2 (S.given e1 hp hk.nt ex).ext r
    | some ts' =>
      intro cls d F2 H2 fp2 ex r xp
      obtain ⟨ρ', e, φ', S', _⟩ := back ex xp
      exact h ρ' e cls d F2 H2 ⟨φ', S'⟩ r
  | bad => rw [ef] at h; exact h
end
end DL
namespace DL
open PySem PySem.Spec PyProof.Rows L2
section
variable {X : Cx} {CX : CXT} {k : Nat} {f C : Addr} {fd : FuncData} {ps : List Str} {sp : Sp} {E : L2.St → XK} {x m : Str} {p pos apos : Pos} {e o : Expr} {es : List Expr} {ta : TE} {t : TA}
end
section
variable {K : PySem.W.Frag} {W : WX} {te ta : TE} {tr : TA} {gr : Rho → R (List Tv)} {g0 : Rho → R Tv} {ks : List AK} {k0 : AK} {vs ws : List Nat} {f : List Tv → XR} {ms : List Bool} {mt : List Nat}
def TDc (K : PySem.W.Frag) (W : WX) (ks : List AK) (vs : List Nat) (f : List Tv → XR) (gr : Rho → R (List Tv)) (te : TE) : Prop := ∀ (F0 H0 F H : Hp) (σ : L2.St) (ρ : Rho) (φ : Nat → List Addr) (Q : VK), StF K F0 H0 F H σ ρ φ →
  Fin K W σ F H (gr ρ) (fun ts _ _ => CallX K F0 H0 σ ks (killD ρ vs) Q (WE W σ) (f ts)) → te σ H Q
theorem c_fn (h : TDxa K W ks vs tr gr) (hms : ks.map AK.isX = ms := by rfl) (hb : bOk ks vs = true := by rfl) : TDc K W ks vs f gr (tCallS (spX K ms f) (WE W) tr) := fun F0 H0 F H σ ρ φ Q S q =>
  h F0 H0 F H σ ρ φ _ S (q.imp fun ts F1 H1 e k us fp al nd hp => callX_ok hms hb S e al nd hp k)
def callXS (ks : List AK) (vs : List Nat) (f : List Tv → XR) (gr : Rho → R (List Tv)) (k : Sl → Rho → SR) : Rho → SR := fun ρ => SR.of (gr ρ) fun ts => match f ts with
  | .rt (.d x) ts' => (match backX ks ts' (killD ρ vs) with
    | some ρ' => k (.d x) ρ'
    | none => .bad)
  | .rt (.t x) ts' => (match backX ks ts' (killD ρ vs) with
    | some ρ' => k (.t x) ρ'
    | none => .bad)
  | .exc c _ => .exc c
  | _ => .bad
theorem callXS_k {F0 H0 F H : Hp} {σ : L2.St} {ρ : Rho} {φ : Nat → List Addr} {D : Ends} {Q : VK} {k : Sl → Rho → SR} (h : TDc K W ks vs f gr te) (S : StF K F0 H0 F H σ ρ φ) (q : FinS K W F0 H0 D (callXS ks vs f gr k ρ))
    (hd : ∀ x ρ' v F H φ, StF K F0 H0 F H σ ρ' φ → Dp K F v x → FinS K W F0 H0 D (k (.d x) ρ') → Q v H)
    (ht : ∀ x ρ' v fq F H φ, StF K F0 H0 F H σ ρ' φ → TvAt K F H fq v x → fq.Nodup → (∀ p ∈ fq, H0 p = none ∧ F p = none) → (∀ j p, p ∈ φ j → p ∉ fq) → FinS K W F0 H0 D (k (.t x) ρ') → Q v H) : te σ H Q := by
  refine h F0 H0 F H σ ρ φ Q S (q.of S.ext fun ts F1 H1 e1 k1 => ?_)
  cases ef : f ts with
  | rt s ts' =>
    simp only [ef] at k1
    cases s with
    | d x =>
      intro ρ' eb v F2 H2 φ2 S2 r
      simp only [eb] at k1
      exact hd x ρ' v F2 H2 φ2 S2 r k1
    | t x =>
      intro ρ' eb v F2 H2 φ2 S2 fq tv nq hq dj
      simp only [eb] at k1
      exact ht x ρ' v fq F2 H2 φ2 S2 tv nq hq dj k1
    | l x => exact k1.elim
    | b x => exact k1.elim
  | exc c o =>
    simp only [ef] at k1
    cases o with
    | none => exact fun cls d F2 H2 ex r => k1 cls d σ F2 H2 ex r
    | some ts' => exact fun ρ' eb cls d F2 H2 S2 r => k1 cls d σ F2 H2 S2.ext r
  | bad => simp only [ef] at k1; exact k1.elim
def sDropX (ks : List AK) (vs : List Nat) (f : List Tv → XR) (gr : Rho → R (List Tv)) : Rho → SR := callXS ks vs f gr fun _ ρ => .nx ρ
theorem ds_dropX (h : TDc K W ks vs f gr te) : TDS K W (tDrop te) (sDropX ks vs f gr) := fun F0 H0 F H σ ρ D S q => by
  obtain ⟨φ, S⟩ := S
  exact callXS_k h S q (fun x ρ' v F H φ S r k => k σ F H ⟨φ, S⟩) fun x ρ' v fq F H φ S tv nq hq dj k => k σ F H ⟨φ, S⟩
end
end DL
namespace DL
open PySem PySem.Spec PyProof.Rows L2
section
variable {prog : Program} {w : World} {A : Around} {E : Value → Shared → Prop}
end
section
variable {X : Cx}
end
section
variable {K : PySem.W.Frag} {W : WX} {t : TA} {te : TE} {g : Rho → R PD}
end
end DL
namespace DL
open PySem PySem.Spec PyProof.Rows L2
def noB (ρ : Rho) : Bool := ρ.all fun s => match s with
  | some (.b _) => false
  | _ => true
theorem noB_x {ρ : Rho} (h : noB ρ = true) {i : Nat} {x : Tv} (e : ρ[i]? = some (some (Sl.b x))) : False := by
  unfold noB at h
  have := List.all_eq_true.mp h _ (List.mem_of_getElem? e)
  cases this
section
variable {K : PySem.W.Frag} {W : WX} {F0 H0 F H F1 H1 : Hp} {σ : L2.St} {ρ : Rho} {φ : Nat → List Addr} {fp : List Addr}
theorem StF.hold (S : StF K F0 H0 F H σ ρ φ) (hf : ∀ j p, p ∈ φ j → p ∉ fp) : StF K F (frzF H0 H fp) F H σ ρ φ := by
  have s0 : Same H0 (frzF H0 H fp) := frz_f S.ext.h
  have s1 : Same (frzF H0 H fp) H := frz_g S.ext.h
  refine ⟨⟨Same.refl F, S.same, s1, fun _ h => .inl h⟩, S.len, S.dat, S.tre, fun i p hp => ?_, S.nod, S.dis, S.lck, fun i x e => ?_⟩
  · obtain ⟨a, b, o, c, d⟩ := S.fre i p hp
    refine ⟨?_, b, o, c, d⟩
    unfold frzF
    rw [if_neg]
    · exact a
    · rintro (z | ⟨o', z, t⟩)
      · exact hf i p hp z
      · rw [c] at z; cases z; exact d t
  · obtain ⟨v, fq, a, b⟩ := S.bor i x e
    exact ⟨v, fq, a, b.keep (Same.refl F) (KeepOn.same s0)⟩
theorem frz_none0 (s : Same H0 H) {p : Addr} (h : frzF H0 H fp p = none) : H0 p = none := (frz_f (fp := fp) s).free h
theorem Ext.unhold (b : Ext F0 H0 F H) (e : Ext F (frzF H0 H fp) F1 H1) : Ext F0 H0 F1 H1 := by
  have s0 : Same H0 (frzF H0 H fp) := frz_f b.h
  refine ⟨b.f.trans e.f, e.g, s0.trans e.h, fun p hp => ?_⟩
  rcases e.n p hp with z | z | ⟨o, z, t⟩
  · exact b.n p z
  · exact .inr (.inl (s0.free z))
  · cases q : H0 p with
    | none => exact .inr (.inl rfl)
    | some u =>
      have := s0 p u q
      rw [z] at this
      cases this
      exact .inr (.inr ⟨_, rfl, t⟩)
theorem StF.unhold (b : Ext F0 H0 F H) (nb : noB ρ = true) (S : StF K F (frzF H0 H fp) F1 H1 σ ρ φ) : StF K F0 H0 F1 H1 σ ρ φ :=
  ⟨b.unhold S.ext, S.len, S.dat, S.tre, fun i p hp => let ⟨a, c⟩ := S.fre i p hp; ⟨frz_none0 b.h a, c⟩, S.nod, S.dis, S.lck, fun i x e => (noB_x nb e).elim⟩
theorem held_keep (e : Ext F (frzF H0 H fp) F1 H1) : KeepOn fp H H1 := fun p o h c => e.h p o (frz_keep p o h c)
theorem held_free (e : Ext F (frzF H0 H fp) F1 H1) {p : Addr} {o : HO} (hp : p ∈ fp) (hf : F p = none) (ho : H p = some o) (hn : ¬ tupO o) : F1 p = none := e.keep hf (frz_keep p o ho (.inl hp)) hn
theorem held_off (S : StF K F (frzF H0 H fp) F1 H1 σ ρ φ) (h : ∀ p ∈ fp, H p ≠ none) {j : Nat} {p : Addr} (hp : p ∈ φ j) : p ∉ fp := fun z => by
  have := (S.fre j p hp).1
  unfold frzF at this
  rw [if_pos (.inl z)] at this
  exact h p z this
theorem RetQ.unhold {Q : VK} {s : Sl} (b : Ext F0 H0 F H) (h : RetQ K F0 H0 Q s) : RetQ K F (frzF H0 H fp) Q s := by
  cases s with
  | d x => exact fun v F1 H1 e q => h v F1 H1 (b.unhold e) q
  | t x => exact fun v fq F1 H1 e q1 q2 q3 => h v fq F1 H1 (b.unhold e) q1 q2 fun p hp => ⟨frz_none0 b.h (q3 p hp).1, (q3 p hp).2⟩
  | l x => exact h
  | b x => exact h
def forTr (m : Nat) (body : Rho → SR) : List Tv → Rho → SR
  | [], ρ => .nx ρ
  | t :: ts, ρ => match body (ρ.set m (some (slOf t))) with
    | .nx ρ2 => if noB ρ2 = true then forTr m body ts ρ2 else .bad
    | .ct ρ2 => if noB ρ2 = true then forTr m body ts ρ2 else .bad
    | .bk ρ2 => if noB ρ2 = true then .nx ρ2 else .bad
    | .rt s => .rt s
    | .exc c => .exc c
    | .bad => .bad
def sForM (m : Nat) (vs : List Nat) (gm : Rho → R Tv) (body : Rho → SR) : Rho → SR := fun ρ => SR.of (gm ρ) fun x => match x with
  | .lst ts => forTr m body ts (killD ρ vs)
  | _ => .bad
theorem TvAll.drop1 {us : List V} {ts : List Tv} {i : Nat} {t : Tv} (h : TvAll K F H fp (us.drop i) (ts.drop i)) (e : ts[i]? = some t) : ∃ u fq fr, us[i]? = some u ∧ TvAt K F H fq u t ∧ TvAll K F H fr (us.drop (i + 1)) (ts.drop (i + 1)) ∧ fp = fq ++ fr := by
  have hl := (List.getElem?_eq_some_iff.mp e).1
  have et := (List.getElem?_eq_some_iff.mp e).2
  rw [List.drop_eq_getElem_cons hl, et] at h
  generalize hu : us.drop i = ws at h
  cases h with
  | cons a b =>
    rename_i u ws
    have hi : us[i]? = some u := by
      have := congrArg (fun l => l[0]?) hu
      simpa using this
    have hd : us.drop (i + 1) = ws := by
      have := congrArg (fun l => l.drop 1) hu
      simpa using this
    rw [hd]
    exact ⟨u, _, _, hi, a, b, rfl⟩
theorem ds_forM (m : Nat) {vs : List Nat} {te : TE} {gm : Rho → R Tv} {tb : TS} {body : Rho → SR} (hm : TDm K W vs te gm) (hb : TDS K W tb body) : TDS K W (tFor (iSeq K te) (gName m) tb) (sForM m vs gm body) := fun F0 H0 F H σ ρ D S q => by
  obtain ⟨φ, S⟩ := S
  refine hm F0 H0 F H σ ρ φ _ S (q.of S.ext fun x F1 H1 e1 k v fp tv nd hp => ?_)
  cases x with
  | lst ts =>
    cases tv with
    | @lst a us fp _ ha tl =>
      have S1 := (S.go e1).drop (is := vs)
      obtain ⟨n1, n2⟩ := List.nodup_cons.mp nd
      have fresh : ∀ p ∈ a :: fp, H0 p = none ∧ F1 p = none := fun p h => by
        refine ⟨?_, (hp p h).1⟩
        rcases (hp p h).2 with z | ⟨i, _, z⟩
        · exact S.ext.h.free z
        · exact (S.fre i p z).1
      have apart : ∀ j p, p ∈ phis φ vs j → p ∉ a :: fp := fun j p h1 h2 => by
        obtain ⟨m1, m2⟩ := phis_mem h1
        rcases (hp p h2).2 with z | ⟨i', hi, z⟩
        · obtain ⟨_, _, o, y, _⟩ := S.fre j p m2
          rw [z] at y; cases y
        · have := S.dis i' j p z m2
          subst this
          exact m1 hi
      have k : FinS K W F0 H0 D (forTr m body ts (killD ρ vs)) := k
      refine .inl ⟨a, rfl, ⟨us, SqL.of ha⟩, fun i mm σ H => mm = ts.length - i ∧ ∃ F ρ φ fp, StF K F0 H0 F H σ ρ φ ∧ H a = some (.lst us) ∧ TvAll K F H fp (us.drop i) (ts.drop i) ∧ (a :: fp).Nodup ∧ (∀ p ∈ a :: fp, H0 p = none ∧ F p = none) ∧ (∀ j p, p ∈ φ j → p ∉ a :: fp) ∧ FinS K W F0 H0 D (forTr m body (ts.drop i) ρ), ⟨_, rfl, F1, _, _, fp, S1, ha, tl, nd, fresh, apart, k⟩, ?_⟩
      have hlen : us.length = ts.length := tl.length
      rintro i mm σ2 H2 ⟨rfl, F2, ρ2, φ2, fp2, S2, ha2, tl2, nd2, fr2, ap2, k2⟩
      cases ht : ts[i]? with
      | none =>
        have hl := List.getElem?_eq_none_iff.mp ht
        rw [List.drop_eq_nil_of_le hl] at k2
        exact .inl ⟨⟨us, SqL.of ha2, by omega⟩, k2 σ2 F2 H2 ⟨φ2, S2⟩⟩
      | some t =>
        have hl := (List.getElem?_eq_some_iff.mp ht).1
        obtain ⟨u, fq, fr, hu, tu, tr, rfl⟩ := tl2.drop1 ht
        rw [List.drop_eq_getElem_cons hl, (List.getElem?_eq_some_iff.mp ht).2] at k2
        refine .inr ⟨⟨us, u, SqL.of ha2, hu⟩, fun σ' H' => ∃ F ρ φ fp, StF K F0 H0 F H' σ' ρ φ ∧ H' a = some (.lst us) ∧ TvAll K F H' fp (us.drop (i + 1)) (ts.drop (i + 1)) ∧ (a :: fp).Nodup ∧ (∀ p ∈ a :: fp, H0 p = none ∧ F p = none) ∧ (∀ j p, p ∈ φ j → p ∉ a :: fp) ∧ FinS K W F0 H0 D (forTr m body (ts.drop (i + 1)) ρ), fun σ' H' h => ⟨_, by omega, rfl, h⟩, fun x H3 y => ?_⟩
        obtain ⟨rfl, y⟩ := y
        have ex := y us (SqL.of ha2)
        rw [hu] at ex; cases ex
        obtain ⟨na, nd3⟩ := List.nodup_cons.mp nd2
        obtain ⟨nq, nr, nqr⟩ := List.nodup_append.mp nd3
        have S3 := S2.putT (i := m) tu nq (fun p hp => fr2 p (List.mem_cons_of_mem _ (List.mem_append_left _ hp))) fun j p _ h1 h2 => ap2 j p h1 (List.mem_cons_of_mem _ (List.mem_append_left _ h2))
        have off3 : ∀ j p, p ∈ phi φ2 m fq j → p ∉ a :: fr := fun j p h1 h2 => by
          by_cases c : j = m
          · subst c
            rw [phi_same] at h1
            rcases List.mem_cons.mp h2 with z | z
            · exact na (by rw [← z]; exact List.mem_append_left _ h1)
            · exact nqr p h1 p z rfl
          · rw [phi_ne c] at h1
            refine ap2 j p h1 ?_
            rcases List.mem_cons.mp h2 with z | z
            · rw [z]; exact List.mem_cons_self
            · exact List.mem_cons_of_mem _ (List.mem_append_right _ z)
        have S4 := S3.hold off3
        have some4 : ∀ p ∈ a :: fr, ∃ o, H3 p = some o ∧ ¬ tupO o := fun p hp => by
          rcases List.mem_cons.mp hp with z | z
          · rw [z]; exact ⟨_, ha2, nt_lst⟩
          · exact tr.nt p z
        have nd4 : (a :: fr).Nodup := List.nodup_cons.mpr ⟨fun z => na (List.mem_append_right _ z), nr⟩
        show tb _ (σ2.set m (some u)) H3
        refine hb F2 (frzF H0 H3 (a :: fr)) F2 H3 _ _ _ ⟨_, S4⟩ ?_
        have after : ∀ {ρ4 : Rho}, noB ρ4 = true → FinS K W F0 H0 D (forTr m body (ts.drop (i + 1)) ρ4) → ∀ σ4 F4 H4, StR K F2 (frzF H0 H3 (a :: fr)) F4 H4 σ4 ρ4 → ∃ F ρ φ fp, StF K F0 H0 F H4 σ4 ρ φ ∧ H4 a = some (.lst us) ∧ TvAll K F H4 fp (us.drop (i + 1)) (ts.drop (i + 1)) ∧ (a :: fp).Nodup ∧ (∀ p ∈ a :: fp, H0 p = none ∧ F p = none) ∧ (∀ j p, p ∈ φ j → p ∉ a :: fp) ∧ FinS K W F0 H0 D (forTr m body (ts.drop (i + 1)) ρ) := fun {ρ4} nb kk σ4 F4 H4 S5 => by
          obtain ⟨φ5, S5⟩ := S5
          have kp := held_keep S5.ext
          refine ⟨F4, ρ4, φ5, fr, S5.unhold S3.ext nb, kp a _ ha2 (.inl List.mem_cons_self), tr.keep S5.ext.f (kp.sub fun p hp => List.mem_cons_of_mem _ hp), nd4, fun p hp => ?_, fun j p hj => held_off S5 (fun p hp => by obtain ⟨o, ho, _⟩ := some4 p hp; rw [ho]; exact Option.some_ne_none o) hj, kk⟩
          obtain ⟨o, ho, hn⟩ := some4 p hp
          have hin : p ∈ a :: (fq ++ fr) := by
            rcases List.mem_cons.mp hp with z | z
            · rw [z]; exact List.mem_cons_self
            · exact List.mem_cons_of_mem _ (List.mem_append_right _ z)
          exact ⟨(fr2 p hin).1, held_free S5.ext hp (fr2 p hin).2 ho hn⟩
        unfold forTr at k2
        cases eb : body (ρ2.set m (some (slOf t))) with
        | nx ρ4 =>
          rw [eb] at k2
          by_cases nb : noB ρ4 = true
          · simp only [if_pos nb] at k2; exact fun σ4 F4 H4 S5 => after nb k2 σ4 F4 H4 S5
          · simp only [if_neg nb] at k2; exact k2.elim
        | ct ρ4 =>
          rw [eb] at k2
          by_cases nb : noB ρ4 = true
          · simp only [if_pos nb] at k2; exact fun σ4 F4 H4 S5 => after nb k2 σ4 F4 H4 S5
          · simp only [if_neg nb] at k2; exact k2.elim
        | bk ρ4 =>
          rw [eb] at k2
          by_cases nb : noB ρ4 = true
          · simp only [if_pos nb] at k2
            exact fun σ4 F4 H4 S5 => let ⟨φ5, S5⟩ := S5; k2 σ4 F4 H4 ⟨φ5, S5.unhold S3.ext nb⟩
          · simp only [if_neg nb] at k2; exact k2.elim
        | rt s => rw [eb] at k2; exact RetQ.unhold (Q := D.rt) S3.ext k2
        | exc c => rw [eb] at k2; exact fun cls d σ4 F4 H4 e r => k2 cls d σ4 F4 H4 (S3.ext.unhold e) r
        | bad => rw [eb] at k2; exact k2.elim
  | _ => exact (show False from k).elim
end
end DL
namespace DL
open PySem PySem.Spec PyProof.Rows L2
inductive Trail (t : SetTable) (hA : Nat → Int) (h : Int) (N : Nat) (hit : Nat → Prop) : Nat → SetTable.Probe → Option Nat → Prop
  | out {n : Nat} {p : SetTable.Probe} {j : Nat} : t.probe hA h p = some (.empty j none) → Trail t hA h N hit (n + 1) p (some j)
  | here {n : Nat} {p x : SetTable.Probe} {j i : Nat} : t.probe hA h p = some (.candidate j i x) → t.slot j = .live i → i < N → hit i → Trail t hA h N hit (n + 1) p none
  | on {n : Nat} {p x : SetTable.Probe} {j i : Nat} {r : Option Nat} : t.probe hA h p = some (.candidate j i x) → t.slot j = .live i → i < N → ¬ hit i → Trail t hA h N hit n x r → Trail t hA h N hit (n + 1) p r
structure Free (t : SetTable) (h : Int) (j : Nat) : Prop where
  at_ : ∃ K, j = way t.mask h K ∧ way t.mask h K ∉ t.place.toList ∧ ∀ c, c < K → way t.mask h c ∈ t.place.toList
section
variable {P : Program} {w : World} {A : Around} {E : Value → Shared → Prop} {s : Shared}
abbrev hashK (P : Program) (w : World) (ks : List Key) : Int := tupleKeyHash (mixKind P w) ks
abbrev rowK (P : Program) (w : World) (p : List Key × Addr) : Int × Value := (hashK P w p.1, .ref p.2)
structure SetK (P : Program) (w : World) (h : Heap) (a : Addr) (L : List (List Key × Addr)) : Prop where
  ex : ∃ o es ep t, h.get? a = some o ∧ o.ExactSet ∧ o.data = .set es ep t ∧ es.toList = L.map (rowK P w) ∧ TabOk t (L.map fun p => hashK P w p.1) ∧ (w.params.followText "set-order" = true ∨ t.led = true) ∧ L.length * 5 < t.mask * 3
  nd : (L.map (·.1)).Nodup
  few : L.length < 64
theorem es_size {es : Array (Int × Value)} {L : List (List Key × Addr)} (e : es.toList = L.map (rowK P w)) : es.size = L.length := by
  rw [← Array.length_toList, e, List.length_map]
theorem tab_fits {es : Array (Int × Value)} {t : SetTable} {L : List (List Key × Addr)} (e : es.toList = L.map (rowK P w)) (d : t.dummies = #[]) (z : t.place.size = L.length) (le : L.length ≤ t.mask) : t.fits es.size = true := by
  unfold SetTable.fits SetTable.fill
  rw [d, es_size e, z]
  simpa using le
structure Holds (L ps : List (List Key × Addr)) : Prop where
  sub : ∀ p ∈ L, p ∈ ps
  all : ∀ p ∈ ps, p.1 ∈ L.map (·.1)
  len : L.length ≤ ps.length
theorem SetK.keep {h h' : Heap} {a : Addr} {L : List (List Key × Addr)} (S : SetK P w h a L) (e : ∀ o, h.get? a = some o → h'.get? a = some o) : SetK P w h' a L := by
  obtain ⟨⟨o, es, ep, t, ho, r⟩, nd, few⟩ := S
  exact ⟨⟨o, es, ep, t, e o ho, r⟩, nd, few⟩
end
def SetKO (P : Program) (w : World) (a : Addr) (L : List (List Key × Addr)) : HO := .ext fun h => SetK P w h a L
def rSortedS (P : Program) (w : World) : List V → Hp → VK → Prop := fun xs H Q => ∃ (a : Addr) (L : List (List Key × Addr)), xs = [.ref a] ∧ H a = some (SetKO P w a L) ∧ (∀ p ∈ L, H p.2 = some (.tup (p.1.map kV))) ∧ (∀ p ∈ L, p.1 ≠ []) ∧ (∀ p ∈ L, ∀ q ∈ L, likeK p.1 q.1 = true) ∧
  ∀ (bs : List Addr) (ks : List (List Key)) p, SrtO.Srtd (fun a b => ltKs a b) ks → ks.Perm (L.map (·.1)) → Paired (fun k b => H b = some (.tup (k.map kV))) ks bs → H p = none → Q (.ref p) (upd H p (.lst (bs.map V.ref)))
section
variable {X : Cx}
theorem cr_sortedS (hc : X.calm = true) : CallR X (.builtin "sorted") (rSortedS X.prog X.w) := by
  intro pins s σ H xs us Q I r h
  obtain ⟨a, L, rfl, ha, hL, hn, hl, q⟩ := h
  obtain ⟨u, rfl, ru⟩ := vals1 r
  obtain rfl : u = Value.ref a := ru
  have S : SetK X.prog X.w s.heap a L := (show ObjOk X.prog X.w H s.heap a (SetKO X.prog X.w a L) from I.hok _ _ ha).1
  have few := S.few
  obtain ⟨o, es, ep, t, ho, ex, hd, he, T, ld, room⟩ := S.ex
  have hz := es_size he
  have fit := tab_fits he T.dm (by rw [T.sz, List.length_map]) (by omega)
  refine Calls.call_function_entry PyProof.Rows.kind_sorted PyProof.Rows.plain_sorted PyProof.Rows.entry_sorted (PyProof.Rows.args_sorted1 _) ?_
  unfold Builtin.«sorted»
  refine wpAny_bind (m := checkCount "sorted" 1 1 _) (wpAny_pure ?_)
  refine wpAny_bind (collect_set (A := X.A.in1) (I.ok.hd hc) ⟨o, ho, ex.1, hd⟩ fit (by unfold scanBound; omega) T.ris ld fun s1 vs k1 sz g1 o1 pm => ?_)
  have pm : vs.Perm ((L.map (·.2)).map Value.ref) := by
    rw [he, List.map_map] at pm
    rw [List.map_map]
    exact pm
  have vl : vs.length = L.length := by rw [pm.length_eq, List.length_map, List.length_map]
  have es1 : s1 = { s with heap := s1.heap, gens := s1.gens, drawn := s1.drawn, toks := s1.toks } := by
    cases s1
    cases s
    cases o1
    rfl
  have J : Inv X pins σ H s1 := by
    rw [es1]
    exact I.call (ch := []) (Un.kept k1) (I.hok.kept k1) (by rw [g1]; exact I.bare) (fun _ z => nomatch z)
  have hok := J.hok
  have pk : Paired (fun k b => H b = some (.tup (k.map kV))) (L.map (·.1)) (L.map (·.2)) := by
    clear ha q hn hl S few he T room hz fit pm vl
    induction L with
    | nil => exact .nil
    | cons p L ih => exact .cons (hL p List.mem_cons_self) (ih fun q hq => hL q (List.mem_cons_of_mem _ hq))
  have kt : ∀ v ∈ vs, ∃ p ∈ L, KTup s1.heap v p.1 := fun v hv => by
    obtain ⟨b, hb, rfl⟩ := List.mem_map.mp (pm.mem_iff.mp hv)
    obtain ⟨p, hp, rfl⟩ := List.mem_map.mp hb
    exact ⟨p, hp, ktup_of hok (hL p hp)⟩
  refine wpAny_bind (wpAny_newList ?_ (by rw [vl, sizeLine_eq]; omega))
  refine wpAny_bind (wpAny_holding (wpAny_mono (sorted_tail (s := s1) (k := keyAt s1.heap) (Q := fun v s' => EP X pins σ Q v s') (by rw [vl, sizeLine_eq]; omega) (fun v hv => ?_) (fun v hv => ?_) (fun v hv u hu => ?_) fun h2 D out h3 h4 kp2 hD hn2 => ?_) (fun _ s' x => ?_) fun _ _ e => e))
  · obtain ⟨p, hp, hk⟩ := kt v hv
    rw [keyAt_of hk]; exact hk
  · obtain ⟨p, hp, hk⟩ := kt v hv
    rw [keyAt_of hk]; exact hn p hp
  · obtain ⟨p, hp, hk⟩ := kt v hv
    obtain ⟨p', hp', hk'⟩ := kt u hu
    rw [keyAt_of hk, keyAt_of hk']; exact hl p hp p' hp'
  ·
    have pre : ∀ l : List Value, (∀ v ∈ l, ∃ b ∈ L.map (·.2), v = Value.ref b) → ∃ bs : List Addr, l = bs.map Value.ref ∧ ∀ b ∈ bs, b ∈ L.map (·.2) := by
      intro l
      induction l with
      | nil => exact fun _ => ⟨[], rfl, fun b h => absurd h List.not_mem_nil⟩
      | cons v l ih =>
        intro h
        obtain ⟨bs, e, m⟩ := ih fun u hu => h u (List.mem_cons_of_mem _ hu)
        obtain ⟨b, hb, e2⟩ := h v List.mem_cons_self
        refine ⟨b :: bs, by rw [e2, e]; rfl, fun c hc => ?_⟩
        rcases List.mem_cons.mp hc with z | z
        · rw [z]; exact hb
        · exact m c z
    obtain ⟨n, hn2⟩ := hn2
    have po : out.Perm ((L.map (·.2)).map Value.ref) := h4.perm.trans pm
    obtain ⟨bs', ks', eo, s1', s2', s3'⟩ := srt_out hok rfl pk h3 po
    refine ⟨.ref D, upd H D (.lst (bs'.map V.ref)), J.laid (t' := s1.toks) kp2 hD ⟨?_, out, n, by rw [eo]; exact refs_vals bs', hn2⟩, rfl, q bs' ks' D s1' s2' s3' (hok.fresh hD)⟩
    have e1 : (bs'.map V.ref).length = vs.length := by rw [← h4.perm.length_eq, eo, List.length_map, List.length_map]
    rw [e1, vl, sizeLine_eq]; omega
  · exact wpAny_pure ⟨_, rfl, x⟩
end
end DL
namespace DL
open PySem PySem.Spec PyProof.Rows L2
section
variable {K : PySem.W.Frag} {W : WX} {F0 H0 F H : Hp} {σ : L2.St} {ρ : Rho} {td ty tv : TE} {g gk gv : Rho → R PD}
end
def maxI (n : Int) (ns : List Int) : Int := ns.foldl (fun a b => if a < b then b else a) n
theorem maxI_spec : ∀ (ns : List Int) (n : Int), (maxI n ns = n ∨ maxI n ns ∈ ns) ∧ n ≤ maxI n ns ∧ ∀ y ∈ ns, y ≤ maxI n ns
  | [], n => ⟨.inl rfl, Int.le_refl _, fun y h => (by cases h)⟩
  | b :: ns, n => by
    obtain ⟨h1, h2, h3⟩ := maxI_spec ns (if n < b then b else n)
    have e : maxI n (b :: ns) = maxI (if n < b then b else n) ns := rfl
    rw [e]
    refine ⟨?_, ?_, fun y hy => ?_⟩
    · rcases h1 with h | h
      · rw [h]
        split
        · exact .inr List.mem_cons_self
        · exact .inl rfl
      · exact .inr (List.mem_cons_of_mem _ h)
    · refine Int.le_trans ?_ h2
      split <;> omega
    · rcases List.mem_cons.mp hy with q | q
      · rw [q]
        refine Int.le_trans ?_ h2
        split <;> omega
      · exact h3 y q
def maxD : List PD → R PD
  | [.list ds] => (match asInts ds with
    | some (n :: ns) => .ok (.int (maxI n ns))
    | _ => .bad)
  | _ => .bad
section
variable {K : PySem.W.Frag}
theorem rc_max : RC K (rMax K) maxD := fun W σ F H vs ds Q s rs q => by
  unfold maxD at q
  split at q
  · split at q
    · rename_i n ns e
      obtain ⟨v, rfl, r⟩ := rs.one
      obtain ⟨p, us, rfl, s1, r1⟩ := r.list s
      rw [asInts_ok e] at r1
      have e2 := r1.of_ints
      subst e2
      refine ⟨p, n :: ns, rfl, .inl s1, Nat.succ_pos _, fun m hm hy => ?_⟩
      obtain ⟨h1, h2, h3⟩ := maxI_spec ns n
      have e : m = maxI n ns := by
        refine Int.le_antisymm ?_ ?_
        · rcases List.mem_cons.mp hm with q | q
          · rw [q]; exact h2
          · exact h3 m q
        · rcases h1 with q | q
          · rw [q]; exact hy n List.mem_cons_self
          · exact hy _ (List.mem_cons_of_mem _ q)
      rw [e]
      exact q.ok s _ (.int _)
    · exact q.elim
  · exact q.elim
end
end DL
namespace DL
open PySem PySem.Spec PyProof.Rows L2
section
variable {X : Cx} {σ : L2.St} {H : Hp} {s sI : Shared} {pins : List (Addr × Obj)} {B : Heap} {a : Addr} {cls : Value} {d : Option Addr} {oe : Obj} {vs : Array Value}
variable {x n : Str} {c : Value} {i : Nat} {body suite : List Stmt} {b₀ : Stmt} {np pos pos' : Pos} {tb : WX → TS} {ts : TS} {Wout : WX}
end
section
variable {X : Cx} {σ : L2.St} {H : Hp} {s : Shared} {pins : List (Addr × Obj)} {a D : Addr} {d : Option Addr}
end
section
variable {K : PySem.W.Frag} {W : WX} {F0 H0 F H : Hp} {σ : L2.St} {ρ : Rho} {te ty : TE} {g gk : Rho → R PD}
def isX (tb : List (Str × Bool)) : PD → R PD
  | .dict ((.str cls, .none) :: _) => (match tb.lookup cls with
    | some b => .ok (.bool b)
    | none => .bad)
  | _ => .bad
end
section
variable {K : PySem.W.Frag}
structure XCls (K : PySem.W.Frag) (mg : Str → Option Value) (x : Str) : Prop where
  q : PySem.W.excIn K (He.ga K x) [.type "ValueError", .type "Exception", .type "BaseException", .type "object"] "ValueError.__new__" = true
  g : mg x = some (.ref (He.ga K x))
  k : PySem.W.keepIn K (.ref (He.ga K x)) = true
  b : PySem.W.subIn K (.ref (He.ga K x)) (.type "BaseException") = some true
  t : PySem.W.typeIn K (.ref (He.ga K x)) = some (.type "type")
  ex : ExcC K (He.ga K x)
end
section
variable {K : PySem.W.Frag}
end
end DL
namespace DL
open PySem PySem.Spec PyProof.Rows L2
section
variable {X : Cx}
end
section
variable {K : PySem.W.Frag} {W : WX} {te tf : TE} {g gf : Rho → R PD} {ta : TA} {ga : Rho → R (List PD)}
end
end DL
namespace DL
open PySem PySem.Spec PyProof.Rows L2
structure FnZ (P : Program) (w : World) (K : PySem.W.Frag) (mg : Str → Option Value) (base : Heap) (CX : CXT) (k : Nat) (f : Addr) (fd : FuncData) (ps : List Str) (sp : Sp) : Prop where
  len : ∀ vs H Q E, sp vs H Q E → vs.length = ps.length
  run : ∀ (A : Around) (outer : List Env) (s : Shared) (H : Hp) (args : Args) (us : List Value) (vs : List V) (Q : VK) (E : XK), L2H.RoomH k A → Env0 P w K mg base A outer s H → BindsTo s fd args (ps.zip us) → Vals vs us → sp vs H Q E →
    codeAny (model P w) A (.call (.ref f) args) (CR CX outer P w H s Q E) s
section
variable {X : Cx} {CX : CXT} {k : Nat} {f : Addr} {fd : FuncData} {ps : List Str} {sp : Sp} {E : L2.St → XK} {x : Str} {q pos : Pos} {e : Expr} {es : List Expr} {t : TA}
end
theorem _root_.L2H.RoomH.units {k : Nat} {A : Around} (r : L2H.RoomH k A) : A.units + 64 < cLine := by have := r.un; omega
end DL
namespace DL
open PySem PySem.Spec PyProof.Rows L2
def KeptX (P : Program) (w : World) (K : PySem.W.Frag) (mg : Str → Option Value) (base : Heap) (k : Nat) (x : Str) (ps : List Str) (ms : List Bool) (f : List Tv → XR) : Prop :=
  ∃ fd : FuncData, PySem.W.keepIn K (.ref (He.ga K x)) = true ∧ mg x = some (.ref (He.ga K x)) ∧ Binds K fd ps [] ∧ FnOk P w K mg base (L2.CX P w) k (He.ga K x) fd ps (spX K ms f)
theorem keptX_of {P : Program} {w : World} {K : PySem.W.Frag} {mg : Str → Option Value} {base : Heap} {x : Str} {params : Arguments} {body : List Stmt} {scope : Scope} {N ps : List Str} {k : Nat} {ms : List Bool} {s : Rho → SX} {f : List Tv → XR}
    (hF : ∃ fd : FuncData, FunD K x x params body scope [] [] (He.ga K x) fd) (hg : mg x = some (.ref (He.ga K x))) (S : FnScope N ps scope) (hm : ps.length = ms.length) (hf : f = runX N.length ms s)
    (hbd : ∀ (kV doc pm : Value) (an : Option Addr) (cdv ct : Value) (us : List Value), us.length = ps.length → bindArgs (PySem.W.fnOf x x params body scope .none kV doc pm an cdv ct) ⟨us, []⟩ = pure (ps.zip us))
    (hb : ∀ (cdv : Value) (A : Around) (outer : List Env) (sh : Shared) (H : Hp) (E : XK), Room k (A.deeper (envOfC x scope sh.heap.objs.size (He.ga K x) cdv)) →
      Takes (cxOf (L2.CX P w) P w K mg base N x scope (He.ga K x) cdv A outer sh H E) (fun cls d _ H => E cls d H) →
      ∃ t, PSs (cxOf (L2.CX P w) P w K mg base N x scope (He.ga K x) cdv A outer sh H E) body t ∧ TDX K (fun cls d _ H => E cls d H) (trk 0 ms) t s) : KeptX P w K mg base (k + 1) x ps ms f := by
  obtain ⟨fd, FD⟩ := hF
  subst hf
  exact ⟨fd, FD.kp, hg, FD.bindsN hbd, fnX FD S hm hb⟩
end DL
namespace DL
open PySem PySem.Spec PyProof.Rows L2
section
variable {K : PySem.W.Frag} {W : WX} {tp ty tx : TE} {gp : Rho → R (List Nat)} {g gx : Rho → R PD}
theorem itr_base {F H0 : Hp} {p : Addr} {vs : List V} {ds : List PD} (s : H0 p = some (.lst vs)) (r : DpAll K F vs ds) : ItR K F H0 ds (Itl K p) := fun i F1 H1 e1 e2 e3 => by
  have s1 : SqL K H1 p vs := SqL.of (e3 _ _ s)
  refine ⟨fun d hd => ?_, fun hl => ⟨vs, s1, by rw [r.length]; exact hl⟩⟩
  obtain ⟨v, hv, rv⟩ := r.get' hd
  refine ⟨⟨vs, v, s1, hv⟩, fun x H2 y => ?_⟩
  obtain ⟨rfl, y⟩ := y
  have e := y vs s1
  rw [hv] at e; cases e
  exact ⟨F1, Ext.refl e2, rv.mono e1⟩
def lstT : Tv → R (List PD)
  | .own (.list ds) => .ok ds
  | .fr (.list ds) => .ok ds
  | _ => .bad
def borOf (ρ : Rho) (i : Nat) : Option Tv := match ρ[i]? with
  | some (some (.b x)) => some x
  | _ => none
def iPlB (i : Nat) (gp : Rho → R (List Nat)) : Rho → R (List PD) := fun ρ => match borOf ρ i with
  | some _ => (atP i gp ρ).bind lstT
  | none => .bad
theorem borOf_e {ρ : Rho} {i : Nat} {x : Tv} (h : borOf ρ i = some x) : ρ[i]? = some (some (.b x)) := by
  unfold borOf at h
  split at h
  · rename_i e; cases h; exact e
  · cases h
theorem di_plB (i : Nat) (hp : TDp2 K W i tp gp) : TDi K W (iSeq K tp) (iPlB i gp) := fun F0 H0 F H σ ρ Q S q => by
  unfold iPlB at q
  cases eb : borOf ρ i with
  | none => rw [eb] at q; exact q.elim
  | some x =>
    rw [eb] at q
    have hb := borOf_e eb
    have hx : treeOf ρ i = some x := by unfold treeOf; rw [hb]
    obtain ⟨v, fp, hv, b0⟩ := (show ∃ v fp, σ[i]? = some (some v) ∧ TvAt K F H0 fp v x from let ⟨φ, S⟩ := S; S.bor i x hb)
    replace q : Fin K W σ F H ((atP i gp ρ).bind lstT) _ := q
    unfold atP at q
    rw [hx] at q
    refine hp F0 H0 F H σ ρ x v _ S hx hv ?_
    cases eg : gp ρ with
    | exc c => simp only [eg] at q; exact q
    | bad => simp only [eg] at q; exact q
    | ok ks =>
      simp only [eg] at q
      replace q : Fin K W σ F H (R.bind (match x.at ks with | some t => R.ok t | none => R.bad) lstT) _ := q
      intro F1 H1 e1 u hu
      cases ek : x.at ks with
      | none => rw [ek] at q; exact q.elim
      | some t =>
        rw [ek] at q
        replace q : Fin K W σ F H (lstT t) _ := q
        have b1 : TvAt K F1 H0 fp v x := b0.keep e1.f (KeepOn.same (Same.refl _))
        obtain ⟨u0, fz, g1, g2, _⟩ := tvAt_get b1 ek
        have sm : Same H0 H1 := S.ext.h.trans e1.h
        have := (g1.mono sm).det hu
        subst this
        cases g2 with
        | own o =>
          rename_i p y _
          cases y with
          | list ds =>
            obtain ⟨vs, a, r⟩ := o
            exact .inl ⟨p, rfl, ⟨vs, SqL.of (sm _ _ a)⟩, (Fin.mono e1 q) F1 H1 (Ext.refl e1.g) _ (itr_base a r)⟩
          | _ => exact q.elim
        | fr r =>
          cases r with
          | lst s r => exact .inl ⟨_, rfl, ⟨_, .inl (rdM e1.g s)⟩, (Fin.mono e1 q) F1 H1 (Ext.refl e1.g) _ (itr_list (.inl s) r)⟩
          | _ => exact q.elim
        | _ => exact q.elim
end
section
variable {K : PySem.W.Frag} {W : WX} {ta tb : TE} {ga gb : Rho → R PD}
end
end DL
namespace DL
open PySem PySem.Spec PyProof.Rows L2
section
variable {K : PySem.W.Frag} {W : WX} {te ti tp tq : TE} {g gi : Rho → R PD} {gp gq : Rho → R (List Nat)} {vs : List Nat} {gm : Rho → R Tv}
end
section
variable {K : PySem.W.Frag} {W : WX} {t : TS} {s : Rho → SX} {ms : List Nat}
def SX.sr : SX → SR
  | .nx ρ => .nx ρ
  | .bk ρ => .bk ρ
  | .ct ρ => .ct ρ
  | .rt s _ => .rt s
  | .exc c _ => .exc c
  | .bad => .bad
end
section
variable {K : PySem.W.Frag} {W : WX} {te : TE} {tr ta : TA} {ks : List AK} {vs : List Nat} {f : List Tv → XR} {gr : Rho → R (List Tv)}
def FinE (K : PySem.W.Frag) (W : WX) (σ : L2.St) (F0 H0 : Hp) {α : Type} (r : R (α × Rho)) (P : α → Hp → Hp → Prop) : Prop := match r with
  | .ok p => ∀ F H, StR K F0 H0 F H σ p.2 → P p.1 F H
  | .exc c => ∀ cls d F H, Ext F0 H0 F H → ExR K c cls d H → W cls d σ H
  | .bad => False
theorem FinE.fin {α β : Type} {σ : L2.St} {F0 H0 F H : Hp} {r : R α} {k : α → R (β × Rho)} {P : β → Hp → Hp → Prop} {P' : α → Hp → Hp → Prop} (b : Ext F0 H0 F H) (q : FinE K W σ F0 H0 (r.bind k) P) (f : ∀ x F1 H1, Ext F H F1 H1 → FinE K W σ F0 H0 (k x) P → P' x F1 H1) : Fin K W σ F H r P' := by
  cases r with
  | ok x => exact fun F1 H1 e => f x F1 H1 e q
  | exc c => exact fun cls d F1 H1 e r => q cls d F1 H1 (b.trans e) r
  | bad => exact q
theorem FinE.then {α β : Type} {σ : L2.St} {F0 H0 : Hp} {r : R (α × Rho)} {k : α × Rho → R (β × Rho)} {P : β → Hp → Hp → Prop} {P' : α → Hp → Hp → Prop} (q : FinE K W σ F0 H0 (r.bind k) P) (f : ∀ p F1 H1, StR K F0 H0 F1 H1 σ p.2 → FinE K W σ F0 H0 (k p) P → P' p.1 F1 H1) : FinE K W σ F0 H0 r P' := by
  cases r with
  | ok p => exact fun F1 H1 S => f p F1 H1 S q
  | exc c => exact q
  | bad => exact q
end
end DL
namespace DL
open PySem PySem.Spec PyProof.Rows L2
section
variable {X : Cx} {pins : List (Addr × Obj)} {σ : L2.St} {H : Hp} {sI s s' : Shared} {W : WX} {E : XK}
end
section
variable {X : Cx} {Wout : WX}
end
section
variable {X : Cx} {Wout : WX}
end
section
variable {K : PySem.W.Frag} {W : WX}
end
end DL
namespace DL
open PySem PySem.Spec PyProof.Rows L2
section
variable {K : PySem.W.Frag} {W : WX}
end
section
variable {K : PySem.W.Frag} {W : WX} {F0 H0 F H F1 H1 : Hp} {σ : L2.St} {ρ : Rho} {φ : Nat → List Addr} {fp : List Addr}
theorem Kp.wk {ms : List Nat} {t : TS} (h : Kp ms t) {D : Ends} {σ : L2.St} {H : Hp} (k : t ⟨fun σ' H' => Kpt ms σ σ' → D.nx σ' H', D.rt, fun σ' H' => Kpt ms σ σ' → D.bk σ' H', fun σ' H' => Kpt ms σ σ' → D.ct σ' H'⟩ σ H) : t D σ H :=
  (h.eqv (D := ⟨fun σ' H' => Kpt ms σ σ' → D.nx σ' H', D.rt, fun σ' H' => Kpt ms σ σ' → D.bk σ' H', fun σ' H' => Kpt ms σ σ' → D.ct σ' H'⟩) (kp_cut fun _ _ kk => ⟨fun h => h kk, fun h _ => h⟩) rfl (kp_cut fun _ _ kk => ⟨fun h => h kk, fun h _ => h⟩) (kp_cut fun _ _ kk => ⟨fun h => h kk, fun h _ => h⟩)).mp k
end
section
end
end DL
namespace DL
open PySem PySem.Spec PyProof.Rows L2
section
variable {M : Model} {A : Around} {E : Value → Shared → Prop} {s : Shared} {env : Env}
end
section
variable {prog : Program} {w : World} {A : Around} {E : Value → Shared → Prop} {s : Shared}
end
section
variable {K : PySem.W.Frag} {W : WX} {ta : TA} {ga : Rho → R (List PD)}
end
section
variable {K : PySem.W.Frag} {W : WX} {t : TS} {ms : List Nat}
end
end DL
namespace DL
open PySem PySem.Spec PyProof.Rows L2
section
variable {K : PySem.W.Frag} {W : WX} {t ta tb te : TE} {t1 t2 : TT} {tr : TA} {vs : List Nat} {n : Nat} {f : List Tv → FR} {gr : Rho → R (List Tv)}
theorem MvQ.wk {F H F1 H1 F' H' : Hp} {φ : Nat → List Addr} {Q : VK} {x : Tv} (e : Ext F H F1 H1) (h : MvQ K H φ vs Q x F' H') : MvQ K H1 φ vs Q x F' H' :=
  fun v fp tv nd hp => h v fp tv nd fun p q => ⟨(hp p q).1, (hp p q).2.imp (fun z => e.h.free z) id⟩
end
end DL
namespace DL
open PySem PySem.Spec PyProof.Rows L2
section
variable {K : PySem.W.Frag} {W : WX} {tp tk tv : TE} {gk : Rho → R PD} {gp : Rho → R (List Nat)} {gm : Rho → R Tv} {vs : List Nat}
end
end DL
namespace DL
open PySem PySem.Spec PyProof.Rows L2
section
variable {K : PySem.W.Frag} {W : WX} {te tp : TE} {gp : Rho → R (List Nat)}
def FinM (K : PySem.W.Frag) (W : WX) (σ : L2.St) (F0 H0 : Hp) (Q : VK) : R (Tv × Rho) → Prop
  | .ok p => ∀ F H φ v fp, StF K F0 H0 F H σ p.2 φ → TvAt K F H fp v p.1 → fp.Nodup → (∀ q ∈ fp, H0 q = none ∧ F q = none) → (∀ j q, q ∈ φ j → q ∉ fp) → Q v H
  | .exc c => ∀ cls d F H, Ext F0 H0 F H → ExR K c cls d H → W cls d σ H
  | .bad => False
theorem FinM.fin {α : Type} {σ : L2.St} {F0 H0 F H : Hp} {Q : VK} {r : R α} {k : α → R (Tv × Rho)} {P : α → Hp → Hp → Prop} (b : Ext F0 H0 F H) (q : FinM K W σ F0 H0 Q (r.bind k)) (f : ∀ x F1 H1, Ext F H F1 H1 → FinM K W σ F0 H0 Q (k x) → P x F1 H1) : Fin K W σ F H r P := by
  cases r with
  | ok x => exact fun F1 H1 e => f x F1 H1 e q
  | exc c => exact fun cls d F1 H1 e r => q cls d F1 H1 (b.trans e) r
  | bad => exact q
theorem take_snoc {α : Type} {l : List α} {k : Nat} {x : α} (h : l[k]? = some x) : l.take (k + 1) = l.take k ++ [x] := by
  rw [List.take_add_one, h]; rfl
end
end DL
namespace DL
open PySem PySem.Spec PyProof.Rows L2
section
variable {K : PySem.W.Frag} {W : WX} {te tp : TE}
end
end DL
namespace DL
open PySem PySem.Spec PyProof.Rows L2
section
variable {K : PySem.W.Frag} {W : WX} {te tp : TE} {gp : Rho → R (List Nat)} {ms : List Nat} {t : TS}
theorem StF.lend {F0 H0 F H : Hp} {σ : L2.St} {ρ : Rho} {φ : Nat → List Addr} (S : StF K F0 H0 F H σ ρ φ) {i : Nat} {x : Tv} (hx : ρ[i]? = some (some (.t x))) : StR K F (frzF H0 H (φ i)) F H σ (ρ.set i (some (.b x))) := by
  obtain ⟨v, hv, tv⟩ := S.tre i x hx
  have S2 := (S.drop (is := [i])).hold (fp := φ i) fun j p h1 h2 => by
    obtain ⟨n1, n2⟩ := phis_mem h1
    exact n1 (by rw [S.dis j i p n2 h2]; exact List.mem_singleton.mpr rfl)
  have S3 := S2.put (i := i) (v := some v) (x := some (.b x)) (fp := []) (fun y e => by cases e) (fun y e => by cases e) (fun y e => by cases e) (fun y e => by cases e; exact ⟨v, φ i, rfl, tv.keep (Same.refl F) frz_keep⟩) (fun p hp => by cases hp) List.nodup_nil (fun j p _ _ hp => by cases hp)
  rw [set_same hv, show (killD ρ [i]).set i (some (Sl.b x)) = ρ.set i (some (.b x)) from List.set_set ..] at S3
  exact ⟨_, S3⟩
end
end DL
namespace DL
open PySem L2
section
variable {K : PySem.W.Frag} {W : WX} {ms : List Nat} {i j : Nat} {ks : List Nat} {t u : TS} {te tp : TE} {tt : TT}
def Al (i j : Nat) (ks : List Nat) (σ : L2.St) (H : Hp) : Prop := ∃ v u, σ[i]? = some (some v) ∧ vAt H v ks u ∧ σ[j]? = some (some u)
theorem Al.go {σ : L2.St} {F H F1 H1 : Hp} (a : Al i j ks σ H) (e : Ext F H F1 H1) : Al i j ks σ H1 := by
  obtain ⟨v, u, h1, h2, h3⟩ := a
  exact ⟨v, u, h1, h2.mono e.h, h3⟩
def alR (i j : Nat) (ks : List Nat) (ρ : Rho) : Option Rho := match treeT ρ i with
  | some x => (match x.at ks with
    | some y => some ((ρ.set i (some (.b x))).set j (some (.b y)))
    | none => none)
  | none => none
theorem StR.alias {F0 H0 F H : Hp} {σ : L2.St} {ρ ρ' : Rho} (S : StR K F0 H0 F H σ ρ) (ij : i ≠ j) (a : Al i j ks σ H) (e : alR i j ks ρ = some ρ') : ∃ F1 H1, StR K F1 H1 F H σ ρ' := by
  unfold alR at e
  cases hx : treeT ρ i with
  | none => rw [hx] at e; cases e
  | some x =>
    rw [hx] at e
    have hi := treeT_e hx
    cases hy : x.at ks with
    | none => simp only [hy] at e; cases e
    | some y =>
      simp only [hy] at e
      cases e
      obtain ⟨φ, S⟩ := S
      obtain ⟨v, u, h1, h2, h3⟩ := a
      obtain ⟨v', hv, tv⟩ := S.tre i x hi
      rw [h1] at hv; cases hv
      obtain ⟨u1, fz, g1, g2, g3⟩ := tvAt_get tv hy
      have := h2.det g1
      subst this
      obtain ⟨ψ, S3⟩ := S.lend hi
      have S4 := S3.put (i := j) (v := some u) (x := some (.b y)) (fp := []) (fun y e => by cases e) (fun y e => by cases e) (fun y e => by cases e) (fun y e => by cases e; exact ⟨u, fz, rfl, g2.keep (Same.refl F) (frz_keep.sub g3)⟩) (fun p hp => by cases hp) List.nodup_nil (fun j p _ _ hp => by cases hp)
      rw [set_same h3] at S4
      exact ⟨_, _, _, S4⟩
def TDXA (K : PySem.W.Frag) (W : WX) (ms : List Nat) (i j : Nat) (t : TS) (s : List Nat → Rho → SX) : Prop := ∀ (ks : List Nat) (F0 H0 F H : Hp) (σ0 σ : L2.St) (ρ : Rho) (D : Ends), StR K F0 H0 F H σ ρ → Al i j ks σ H → Kpt ms σ0 σ → FinX K W F0 H0 ms σ0 D (s ks ρ) → t D σ H
def xAlias (i j : Nat) (gp : Rho → R (List Nat)) (s : List Nat → Rho → SX) : Rho → SX := fun ρ => match treeT ρ i with
  | some _ => if j < ρ.length then SX.of ρ (gp ρ) fun ks => s ks (ρ.set j none) else .bad
  | none => .bad
theorem xs_alias {gp : Rho → R (List Nat)} {s : List Nat → Rho → SX} (ij : i ≠ j) (hj : j ∉ ms) (hp : TDp2 K W i tp gp) (hs : TDXA K W ms i j t s) : TDX K W ms (tSeq (tAsg tp (gName j)) t) (xAlias i j gp s) := fun F0 H0 F H σ0 σ ρ D S kp q => by
  unfold xAlias at q
  cases hx : treeT ρ i with
  | none => rw [hx] at q; exact q.elim
  | some x =>
    rw [hx] at q
    replace q : FinX K W F0 H0 ms σ0 D (if j < ρ.length then SX.of ρ (gp ρ) fun ks => s ks (ρ.set j none) else .bad) := q
    by_cases hl : j < ρ.length
    case neg => rw [if_neg hl] at q; exact q.elim
    rw [if_pos hl] at q
    have hi := treeT_e hx
    have ho : treeOf ρ i = some x := by unfold treeOf; rw [hi]
    obtain ⟨v, hv, _⟩ := (show ∃ v, σ[i]? = some (some v) ∧ True from let ⟨φ, S⟩ := S; let ⟨v, a, _⟩ := S.tre i x hi; ⟨v, a, trivial⟩)
    refine hp F0 H0 F H σ ρ x v _ S ho hv (q.of S kp fun ks F1 H1 e k u hu => ?_)
    obtain ⟨φ, S1⟩ := S.go e
    have S2 := S1.put (i := j) (v := some u) (x := none) (fp := []) (fun y e => by cases e) (fun y e => by cases e) (fun y e => by cases e) (fun y e => by cases e) (fun p hp => by cases hp) List.nodup_nil (fun j p _ _ hp => by cases hp)
    refine hs ks F0 H0 F1 H1 σ0 (σ.set j (some u)) (ρ.set j none) D ⟨_, S2⟩ ⟨v, u, ?_, hu, ?_⟩ (kp.trans (Kpt.set hj)) k
    · rw [List.getElem?_set_ne (Ne.symm ij)]; exact hv
    · rw [List.getElem?_set_self (by rw [show σ.length = ρ.length from let ⟨φ, S⟩ := S; S.len]; exact hl)]
def stopX : SX → SX
  | .nx _ => .bad
  | x => x
theorem FinX.stop {F0 H0 : Hp} {σ0 : L2.St} {D : Ends} {n : L2.St → Hp → Prop} {y : SX} (h : FinX K W F0 H0 ms σ0 D (stopX y)) : FinX K W F0 H0 ms σ0 { D with nx := n } y := by
  cases y with
  | nx ρ => exact h.elim
  | rt s ρ => cases s <;> exact h
  | bk ρ => exact h
  | ct ρ => exact h
  | exc c o => cases o <;> exact h
  | bad => exact h
def xaIf (i j : Nat) (gt : Rho → R Bool) (sr : Rho → SX) (s : List Nat → Rho → SX) : List Nat → Rho → SX := fun ks ρ => match alR i j ks ρ with
  | some ρ' => SX.of ρ (gt ρ') fun c => if c = true then stopX (sr ρ) else s ks ρ
  | none => .bad
theorem xa_if {tr : TS} {gt : Rho → R Bool} {sr : Rho → SX} {s : List Nat → Rho → SX} (ij : i ≠ j) (ht : TDt K W tt gt) (hr : TDX K W ms tr sr) (hs : TDXA K W ms i j t s) : TDXA K W ms i j (tSeq (tIfS tt tr tNext) t) (xaIf i j gt sr s) := fun ks F0 H0 F H σ0 σ ρ D S a kp q => by
  unfold xaIf at q
  cases e : alR i j ks ρ with
  | none => rw [e] at q; exact q.elim
  | some ρ' =>
    rw [e] at q
    obtain ⟨F', H', S'⟩ := S.alias ij a e
    replace q : FinX K W F0 H0 ms σ0 D (SX.of ρ (gt ρ') fun c => if c = true then stopX (sr ρ) else s ks ρ) := q
    refine ht F' H' F H σ ρ' _ S' (q.of S kp fun c F1 H1 e1 k => ?_)
    cases c with
    | true => exact hr F0 H0 F1 H1 σ0 σ ρ _ (S.go e1) kp (FinX.stop k)
    | false => exact hs ks F0 H0 F1 H1 σ0 σ ρ D (S.go e1) (a.go e1) kp k
def tAl (i j : Nat) (ks : List Nat) : TE := fun σ H Q => Al i j ks σ H → tVar j σ H Q
theorem tp_al (i j : Nat) (ks : List Nat) : TDp2 K W i (tAl i j ks) (fun _ => .ok ks) := fun F0 H0 F H σ ρ x v Q S hx hv q a => by
  obtain ⟨v', u, h1, h2, h3⟩ := a
  rw [hv] at h1
  cases h1
  exact ⟨u, h3, (q.ok S.same) u h2⟩
def xaApp (i : Nat) (g : Rho → R PD) : List Nat → Rho → SX := fun ks => xLift (sAppendP i (fun _ => .ok ks) g)
theorem xa_app {g : Rho → R PD} (h : TDe K W te g) : TDXA K W ms i j (tDrop (tBM K "list" rAppend (tVar j) (tCons te tNil))) (xaApp i g) := fun ks F0 H0 F H σ0 σ ρ D S a kp q => by
  have T := xs_of (ms := ms) (ds_appendP i (tp_al (K := K) (W := W) i j ks) h) kp_drop
  exact T F0 H0 F H σ0 σ ρ D S kp q a
end
end DL
namespace DL
open PySem PySem.Spec PyProof.Rows L2
section
variable {K : PySem.W.Frag} {W : WX} {te td ty : TE} {g gd gy : Rho → R PD} {F0 H0 F H : Hp} {σ : L2.St} {ρ : Rho}
def dvOf : PD → R (List (PD × PD))
  | .dict ((.none, .none) :: kvs) => .ok kvs
  | _ => .bad
theorem dvOf_x (x : PD) : (∃ kvs, x = encD kvs ∧ dvOf x = .ok kvs) ∨ dvOf x = .bad := by
  unfold dvOf
  split
  · exact .inl ⟨_, rfl, rfl⟩
  · exact .inr rfl
theorem dp_dct {v : V} {kvs : List (PD × PD)} (h : Dp K F v (encD kvs)) : ∃ a es, v = .ref a ∧ F a = some (.dK es) ∧ KvR K F keyD es kvs := by
  unfold encD at h
  generalize e : PyData.dict ((.none, .none) :: kvs) = x at h
  cases h with
  | dct s l al =>
    unfold encD at e
    injection e with e
    injection e with _ e
    subst e
    exact ⟨_, _, rfl, s, KvR.of_zip l al⟩
  | exc _ _ _ =>
    unfold encE at e
    injection e with e
    injection e with e _
    injection e with e _
    cases e
  | _ => cases e
def eDVget (gd gy : Rho → R PD) : Rho → R PD := fun ρ => (gd ρ).bind fun x => (dvOf x).bind fun kvs => (gy ρ).bind fun y => getD kvs y
theorem td_dvget (hd : TDe K W td gd) (hy : TDr K W ty gy) : TDe K W (tDGet td ty) (eDVget gd gy) := fun F0 H0 F H σ ρ Q S q =>
  hd F0 H0 F H σ ρ _ S (q.then fun x F1 H1 e1 k1 v rv => by
    rcases dvOf_x x with ⟨kvs, rfl, e⟩ | e
    · rw [e] at k1
      obtain ⟨p, es, rfl, hp, r⟩ := dp_dct rv
      replace k1 : Fin K W σ F1 H1 ((gy ρ).bind fun y => getD kvs y) (DpQ K Q) := k1
      refine hy F0 H0 F1 H1 σ ρ _ (S.go e1) (k1.then fun y F2 H2 e2 k2 u ru => ?_)
      unfold getD at k2
      split at k2
      · rename_i k ek
        rw [keyD_of ek] at ru
        have := key_rp ru
        subst this
        rcases r.val k with ⟨z, _⟩ | ⟨d, u, z1, z2, z3⟩
        · rw [z] at k2; exact k2.elim
        · rw [z1] at k2
          exact ⟨p, u, rfl, .inl ⟨es, k, .inl (e2.g _ _ (e2.f _ _ hp)), rfl, z2.symm⟩, Fin.okk K W σ e2.g k2 _ (z3.mono e2.f)⟩
      · exact k2.elim
    · rw [e] at k1; exact k1.elim)
def oDVlist (gd : Rho → R PD) : Rho → R PD := fun ρ => (gd ρ).bind fun x => (dvOf x).bind fun kvs => .ok (.list (kvs.map (·.1)))
theorem keysV_dp : ∀ {es : List (Key × V)} {kvs : List (PD × PD)}, KvR K F keyD es kvs → DpAll K H (es.map fun kv => kV kv.1) (kvs.map (·.1))
  | _, _, .nil => .nil
  | _, _, .cons (k := k) _ t => .cons (key_dp k) (keysV_dp t)
theorem to_dvlist (hd : TDe K W td gd) : TDo K W (tCB rListD (tCons td tNil)) (oDVlist gd) := fun F0 H0 F H σ ρ Q S q =>
  hd F0 H0 F H σ ρ _ S (q.then fun x F1 H1 e1 k1 v rv => by
    rcases dvOf_x x with ⟨kvs, rfl, e⟩ | e
    · rw [e] at k1
      obtain ⟨p, es, rfl, hp, r⟩ := dp_dct rv
      refine ⟨p, es, rfl, e1.g _ _ hp, fun q' hq => ?_⟩
      have k1 : ∀ F' H', Ext F1 H1 F' H' → OwQ K H Q (.list (kvs.map (·.1))) F' H' := k1
      have hq0 : H q' = none := e1.h.free hq
      exact k1 F1 _ (Ext.own e1.g hq) q' hq0 (e1.g.free hq) ⟨_, upd_same, keysV_dp r⟩
    · rw [e] at k1; exact k1.elim)
mutual
def ndD : PD → Bool
  | .list l => ndDs l
  | .tuple l => ndDs l
  | .dict ((.none, .none) :: _) => false
  | _ => true
def ndDs : List PD → Bool
  | [] => true
  | d :: l => ndD d && ndDs l
end
mutual
def ndT : Tv → Bool
  | .fr d => ndD d
  | .own (.list l) => ndDs l
  | .own (.dict kvs) => kvs.all fun q => ndD q.2
  | .own _ => false
  | .dT kvs => kvs.all fun q => ndD q.2
  | .lst ts => ndTs ts
  | .tup ts => ndTs ts
  | .obj _ _ ts => ndTs ts
  | .dct _ ts => ndTs ts
  | .any => true
def ndTs : List Tv → Bool
  | [] => true
  | t :: ts => ndT t && ndTs ts
end
def SameN (F F' : Hp) : Prop := ∀ a o, F a = some o → (∀ es, o ≠ .dK es) → (∀ od es, o ≠ .frz od (.dK es)) → F' a = some o
section
variable {F' H' : Hp} (e : SameN F F')
include e
mutual
theorem Dp.nd : ∀ {v : V} {d : PD}, Dp K F v d → ndD d = true → Dp K F' v d
  | _, _, .non, _ => .non
  | _, _, .bl b, _ => .bl b
  | _, _, .int i, _ => .int i
  | _, _, .str x, _ => .str x
  | _, _, .lst s a, h => by
    unfold ndD at h
    refine .lst ?_ (DpAll.nd a h)
    rcases s with s | ⟨o, s⟩
    · exact .inl (e _ _ s (fun _ z => by cases z) fun _ _ z => by cases z)
    · exact .inr ⟨o, e _ _ s (fun _ z => by cases z) fun _ _ z => by cases z⟩
  | _, _, .tup s a, h => by
    unfold ndD at h
    exact .tup (e _ _ s (fun _ z => by cases z) fun _ _ z => by cases z) (DpAll.nd a h)
  | _, _, .exc s r g, _ => .exc (e _ _ s (fun _ z => by cases z) fun _ _ z => by cases z) (r.imp id fun ⟨dd, h, k⟩ => ⟨dd, h, e _ _ k (fun _ z => by cases z) fun _ _ z => by cases z⟩) g
  | _, _, .dct _ _ _, h => by unfold encD ndD at h; cases h
theorem DpAll.nd : ∀ {vs : List V} {ds : List PD}, DpAll K F vs ds → ndDs ds = true → DpAll K F' vs ds
  | _, _, .nil, _ => .nil
  | _, _, .cons h t, q => by
    unfold ndDs at q
    rw [Bool.and_eq_true] at q
    exact .cons (Dp.nd h q.1) (DpAll.nd t q.2)
end
theorem KvR.nd {κ : Type} {kd : κ → PD} : ∀ {es : List (κ × V)} {kvs : List (PD × PD)}, KvR K F kd es kvs → (kvs.all fun q => ndD q.2) = true → KvR K F' kd es kvs
  | _, _, .nil, _ => .nil
  | _, _, .cons h t, q => by
    rw [List.all_cons, Bool.and_eq_true] at q
    exact .cons (Dp.nd e h q.1) (KvR.nd t q.2)
theorem KvT.nd {es : List (List Key × V)} {kvs : List (List Key × PD)} (h : KvT K F es kvs) : (kvs.all fun q => ndD q.2) = true → KvT K F' es kvs := by
  unfold KvT at h ⊢
  induction h with
  | nil => exact fun _ => .nil
  | cons a _ ih =>
    intro q
    rw [List.all_cons, Bool.and_eq_true] at q
    exact .cons ⟨a.1, Dp.nd e a.2 q.1⟩ (ih q.2)
theorem OwnAt.nd {p : Addr} {x : PD} (g : KeepOn [p] H H') (h : OwnAt K F H p x) (q : ndT (.own x) = true) : OwnAt K F' H' p x := by
  cases x with
  | list ds =>
    unfold ndT at q
    obtain ⟨vs, a, b⟩ := h
    exact ⟨vs, g _ _ a (.inl (by simp)), DpAll.nd e b q⟩
  | dict kvs =>
    unfold ndT at q
    obtain ⟨es, a, b⟩ := h
    exact ⟨es, g _ _ a (.inl (by simp)), KvR.nd e b q⟩
  | _ => exact h.elim
mutual
theorem TvAt.nd : ∀ {fp : List Addr} {v : V} {t : Tv}, KeepOn fp H H' → TvAt K F H fp v t → ndT t = true → TvAt K F' H' fp v t
  | _, _, _, _, .fr h, q => by unfold ndT at q; exact .fr (Dp.nd e h q)
  | _, _, _, g, .own h, q => .own (h.nd e g q)
  | _, _, _, g, .dT h k, q => by unfold ndT at q; exact .dT (g _ _ h (.inl (by simp))) (k.nd e q)
  | _, _, _, g, .lst h k, q => by unfold ndT at q; exact .lst (g _ _ h (.inl (by simp))) (TvAll.nd (g.sub fun p hp => List.mem_cons_of_mem _ hp) k q)
  | _, _, _, g, .tup h k, q => by unfold ndT at q; exact .tup (g.tup h) (TvAll.nd g k q)
  | _, _, _, g, .obj h h' l k, q => by unfold ndT at q; exact .obj (g _ _ h (.inl (by simp))) (g _ _ h' (.inl (by simp))) l (TvAll.nd (g.sub fun p hp => List.mem_cons_of_mem _ (List.mem_cons_of_mem _ hp)) k q)
  | _, _, _, g, .dct h l k, q => by unfold ndT at q; exact .dct (g _ _ h (.inl (by simp))) l (TvAll.nd (g.sub fun p hp => List.mem_cons_of_mem _ hp) k q)
  | _, _, _, _, .any, _ => .any
theorem TvAll.nd : ∀ {fp : List Addr} {vs : List V} {ts : List Tv}, KeepOn fp H H' → TvAll K F H fp vs ts → ndTs ts = true → TvAll K F' H' fp vs ts
  | _, _, _, _, .nil, _ => .nil
  | _, _, _, g, .cons h k, q => by
    unfold ndTs at q
    rw [Bool.and_eq_true] at q
    exact .cons (TvAt.nd (g.sub fun p hp => List.mem_append_left _ hp) h q.1) (TvAll.nd (g.sub fun p hp => List.mem_append_right _ hp) k q.2)
end
end
def ndS : Option Sl → Option Sl
  | some (.d x) => if ndD x = true then some (.d x) else none
  | some (.t x) => if ndT x = true then some (.t x) else none
  | _ => none
theorem ndS_d {ρ : Rho} {i : Nat} {x : PD} (h : (ρ.map ndS)[i]? = some (some (.d x))) : ρ[i]? = some (some (.d x)) ∧ ndD x = true := by
  rw [List.getElem?_map] at h
  cases e : ρ[i]? with
  | none => rw [e] at h; cases h
  | some z =>
    rw [e] at h
    have h : ndS z = some (.d x) := Option.some.inj h
    unfold ndS at h
    split at h
    · split at h
      · cases h; exact ⟨rfl, by assumption⟩
      · cases h
    · split at h <;> cases h
    · cases h
theorem ndS_t {ρ : Rho} {i : Nat} {x : Tv} (h : (ρ.map ndS)[i]? = some (some (.t x))) : ρ[i]? = some (some (.t x)) ∧ ndT x = true := by
  rw [List.getElem?_map] at h
  cases e : ρ[i]? with
  | none => rw [e] at h; cases h
  | some z =>
    rw [e] at h
    have h : ndS z = some (.t x) := Option.some.inj h
    unfold ndS at h
    split at h
    · split at h <;> cases h
    · split at h
      · cases h; exact ⟨rfl, by assumption⟩
      · cases h
    · cases h
theorem ndS_o {ρ : Rho} {i : Nat} {x : PD} : (ρ.map ndS)[i]? ≠ some (some (.l x)) ∧ ∀ y, (ρ.map ndS)[i]? ≠ some (some (.b y)) := by
  rw [List.getElem?_map]
  cases e : ρ[i]? with
  | none => exact ⟨fun h => (by cases h), fun y h => (by cases h)⟩
  | some z =>
    have : ∀ s, ndS z = some s → (∃ x, s = .d x) ∨ ∃ x, s = .t x := by
      intro s h
      unfold ndS at h
      split at h
      · split at h
        · cases h; exact .inl ⟨_, rfl⟩
        · cases h
      · split at h
        · cases h; exact .inr ⟨_, rfl⟩
        · cases h
      · cases h
    refine ⟨fun h => ?_, fun y h => ?_⟩
    · rcases this _ (Option.some.inj h) with ⟨_, q⟩ | ⟨_, q⟩ <;> cases q
    · rcases this _ (Option.some.inj h) with ⟨_, q⟩ | ⟨_, q⟩ <;> cases q
theorem StF.nd {F0' H0' F' H' : Hp} {φ : Nat → List Addr} {p : Addr} {o : HO} (S : StF K F0 H0 F H σ ρ φ) (hp : F p = some o) (ho : (∃ es, o = .dK es) ∨ ∃ od es, o = .frz od (.dK es)) (ex : Ext F0' H0' F' H')
    (hF : ∀ a, a ≠ p → F' a = F a) (hH : ∀ a, a ≠ p → H' a = H a) (h0 : ∀ a, a ≠ p → H0' a = H0 a) : StF K F0' H0' F' H' σ (ρ.map ndS) φ := by
  have sn : SameN F F' := fun a u h n1 n2 => by
    by_cases c : a = p
    · subst c
      rw [hp] at h; cases h
      rcases ho with ⟨es, z⟩ | ⟨od, es, z⟩
      · exact absurd z (n1 es)
      · exact absurd z (n2 od es)
    · rw [hF a c]; exact h
  have nt : ¬ tupO o := by
    rcases ho with ⟨es, rfl⟩ | ⟨od, es, rfl⟩
    · exact nt_dK
    · exact nt_frzd
  have np : ∀ i q, q ∈ φ i → q ≠ p := fun i q hq z => by
    subst z
    have := (S.fre i q hq).2.1
    rw [hp] at this; cases this
  have kp : ∀ i, KeepOn (φ i) H H' := fun i q u h c => by
    have : q ≠ p := by
      rcases c with c | c
      · exact np i q c
      · intro z
        subst z
        rw [S.ext.g _ _ hp] at h
        cases h
        exact nt c
    rw [hH q this]; exact h
  refine ⟨ex, by rw [List.length_map]; exact S.len, fun j z h => ?_, fun j z h => ?_, fun j q hq => ?_, S.nod, S.dis, fun j z h => absurd h ndS_o.1, fun j z h => absurd h (ndS_o (x := PyData.none).2 z)⟩
  · obtain ⟨h1, h2⟩ := ndS_d h
    obtain ⟨v, a, b⟩ := S.dat j z h1
    exact ⟨v, a, b.nd sn h2⟩
  · obtain ⟨h1, h2⟩ := ndS_t h
    obtain ⟨v, a, b⟩ := S.tre j z h1
    exact ⟨v, a, b.nd sn (kp j) h2⟩
  · obtain ⟨x1, x2, x3⟩ := S.fre j q hq
    have n := np j q hq
    exact ⟨by rw [h0 q n]; exact x1, by rw [hF q n]; exact x2, by rw [hH q n]; exact x3⟩
def unlV : SR → SR
  | .nx ρ => .nx (ρ.map ndS)
  | .bk ρ => .bk (ρ.map ndS)
  | .ct ρ => .ct (ρ.map ndS)
  | _ => .bad
def sLockV (i : Nat) (s : Rho → SR) : Rho → SR := fun ρ => match ρ[i]? with
  | some (some (.d (.dict ((.none, .none) :: kvs)))) => if (kvs.all fun q => ndD q.2) = true then unlV (s ((ρ.map ndS).set i (some (.l (.dict kvs))))) else .bad
  | _ => .bad
theorem ds_lockV (i : Nat) {t : TS} {s : Rho → SR} (h : TDS K W t s) : TDS K W (tLock t) (sLockV i s) := fun F0 H0 F H σ ρ D S q => by
  unfold sLockV at q
  split at q
  case h_2 => exact q.elim
  rename_i kvs ei
  split at q
  case isFalse => exact q.elim
  rename_i hk
  obtain ⟨v, hv, dv⟩ := S.dat i _ ei
  obtain ⟨p, es, rfl, hp, r⟩ := dp_dct dv
  refine ⟨p, .dK es, S.same _ _ hp, True.intro, fun od => ?_⟩
  have hH : H p = some (.dK es) := S.same _ _ hp
  have up : ∀ {A : Hp} {u : HO} {a : Addr}, a ≠ p → upd A p u a = A a := fun c => upd_ne c
  have exI : Ext (upd F p (.frz od (.dK es))) (upd H0 p (.frz od (.dK es))) (upd F p (.frz od (.dK es))) (upd H p (.frz od (.dK es))) := by
    refine ⟨Same.refl _, fun a u e => ?_, fun a u e => ?_, fun a e => .inl e⟩
    · by_cases ha : a = p
      · subst ha; rw [upd_same] at e ⊢; exact e
      · rw [upd_ne ha] at e ⊢; exact S.ext.g a u e
    · by_cases ha : a = p
      · subst ha; rw [upd_same] at e ⊢; exact e
      · rw [upd_ne ha] at e ⊢; exact S.ext.h a u e
  have sn0 : SameN F (upd F p (.frz od (.dK es))) := fun a u e n1 _ => by
    by_cases ha : a = p
    · subst ha; rw [hp] at e; cases e; exact absurd rfl (n1 es)
    · rw [upd_ne ha]; exact e
  have SI : StR K (upd F p (.frz od (.dK es))) (upd H0 p (.frz od (.dK es))) (upd F p (.frz od (.dK es))) (upd H p (.frz od (.dK es))) σ ((ρ.map ndS).set i (some (.l (.dict kvs)))) := by
    obtain ⟨φ, S⟩ := S
    have S1 := S.nd hp (.inl ⟨es, rfl⟩) exI (fun a c => upd_ne c) (fun a c => upd_ne c) (fun a c => upd_ne c)
    have S2 := S1.put (i := i) (v := some (.ref p)) (x := some (.l (.dict kvs))) (fp := []) (fun y e => by cases e) (fun y e => by cases e) (fun y e => by cases e; exact ⟨p, rfl, od, es, upd_same, r.nd sn0 hk⟩) (fun y e => by cases e) (fun p hp => by cases hp) List.nodup_nil (fun j p _ _ hp => by cases hp)
    rw [set_same hv] at S2
    exact ⟨_, S2⟩
  have st : ∀ {F1 H1 : Hp} {σ1 : L2.St} {ρ1 : Rho}, StR K (upd F p (.frz od (.dK es))) (upd H0 p (.frz od (.dK es))) F1 H1 σ1 ρ1 → H1 p = some (.frz od (.dK es)) ∧ StR K F0 H0 (upd F1 p (.dK es)) (upd H1 p (.dK es)) σ1 (ρ1.map ndS) := by
    intro F1 H1 σ1 ρ1 S1
    have e := S1.ext
    have a1 : F1 p = some (.frz od (.dK es)) := e.f _ _ upd_same
    obtain ⟨φ, S1⟩ := S1
    refine ⟨e.g _ _ a1, φ, S1.nd a1 (.inr ⟨od, es, rfl⟩) ⟨fun a u z => ?_, fun a u z => ?_, fun a u z => ?_, fun a z => ?_⟩ (fun a c => upd_ne c) (fun a c => upd_ne c) (fun a c => (upd_ne c).symm)⟩
    · have z' := S.ext.f _ _ z
      by_cases ha : a = p
      · subst ha; rw [hp] at z'; rw [upd_same]; exact z'
      · rw [upd_ne ha]; exact e.f _ _ (by rw [upd_ne ha]; exact z')
    · by_cases ha : a = p
      · subst ha; rw [upd_same] at z ⊢; exact z
      · rw [upd_ne ha] at z ⊢; exact e.g _ _ z
    · have z' := S.ext.h _ _ z
      by_cases ha : a = p
      · subst ha; rw [hH] at z'; rw [upd_same]; exact z'
      · rw [upd_ne ha]; exact e.h _ _ (by rw [upd_ne ha]; exact z)
    · by_cases ha : a = p
      · subst ha; exact S.ext.n a (by rw [hp]; exact Option.some_ne_none _)
      · rw [upd_ne ha] at z
        rcases e.n a z with y | y
        · rw [upd_ne ha] at y; exact S.ext.n a y
        · rw [upd_ne ha] at y; exact .inr y
  refine h _ _ _ _ σ _ _ SI ?_
  cases e : s ((ρ.map ndS).set i (some (.l (.dict kvs)))) with
  | nx ρ1 =>
    rw [e] at q
    exact fun σ1 F1 H1 S1 => ⟨(st S1).1, q σ1 _ _ (st S1).2⟩
  | bk ρ1 =>
    rw [e] at q
    exact fun σ1 F1 H1 S1 => ⟨(st S1).1, q σ1 _ _ (st S1).2⟩
  | ct ρ1 =>
    rw [e] at q
    exact fun σ1 F1 H1 S1 => ⟨(st S1).1, q σ1 _ _ (st S1).2⟩
  | rt x => rw [e] at q; exact q.elim
  | exc c => rw [e] at q; exact q.elim
  | bad => rw [e] at q; exact q.elim
end
end DL
namespace DL
open PySem L2
section
variable {K : PySem.W.Frag} {W : WX}
def mAtM (i : Nat) (gp : Rho → R (List Nat)) : Rho → R Tv := fun ρ => match ρ[i]? with
  | some (some (.t x)) => (gp ρ).bind fun ks => (match x.at ks with
    | some t => .ok t
    | none => .bad)
  | _ => .bad
theorem tm_atM {tp : TE} {gp : Rho → R (List Nat)} (i : Nat) (hp : TDp2 K W i tp gp) : TDm K W [i] tp (mAtM i gp) := fun F0 H0 F H σ ρ φ Q S q => by
  unfold mAtM at q
  split at q
  case h_2 => exact q.elim
  rename_i x e
  have hx : treeOf ρ i = some x := by unfold treeOf; rw [e]
  obtain ⟨v, a, b⟩ := S.tre i x e
  refine hp F0 H0 F H σ ρ x v _ ⟨φ, S⟩ hx a ?_
  cases eg : gp ρ with
  | exc c => rw [eg] at q; exact q
  | bad => rw [eg] at q; exact q
  | ok ks =>
    rw [eg] at q
    replace q : Fin K W σ F H (match x.at ks with | some t => R.ok t | none => R.bad) (MvQ K H φ [i] Q) := q
    intro F1 H1 e1 u hu
    have S1 := S.go e1
    obtain ⟨v', a1, b1⟩ := S1.tre i x e
    rw [a] at a1; cases a1
    cases ek : x.at ks with
    | none => rw [ek] at q; exact q.elim
    | some t =>
      rw [ek] at q
      obtain ⟨u1, fq, g1, g2, g3, g4, _⟩ := tvAt_at b1 (S1.nod i) ek
      have := hu.det g1
      subst this
      exact (q F1 H1 e1) u fq g2 g3 fun p hp => ⟨(S1.fre i p (g4 p hp)).2.1, .inr ⟨i, by simp, g4 p hp⟩⟩
def loosen : Tv → Tv
  | .own (.list ds) => .lst (ds.map Tv.fr)
  | t => t
theorem TvAt.loosen {F H : Hp} {fp : List Addr} {v : V} {t : Tv} (h : TvAt K F H fp v t) : TvAt K F H fp v (loosen t) := by
  cases t with
  | own x =>
    cases x with
    | list ds =>
      cases h with
      | own o =>
        obtain ⟨vs, a, b⟩ := o
        exact .lst a (dp_frs b)
    | _ => exact h
  | _ => exact h
def forTp (m : Nat) (body : Rho → SR) (fin : List Tv → Rho → SR) : List Tv → List Tv → Rho → SR
  | dn, [], ρ => fin dn ρ
  | dn, t :: ts, ρ => match body (ρ.set m (some (slOf (DL.loosen t)))) with
    | .nx ρ2 => if noB ρ2 = true then (match ρ2[m]? with
      | some (some (.t t')) => forTp m body fin (dn ++ [t']) ts (ρ2.set m none)
      | _ => .bad) else .bad
    | .exc c => .exc c
    | _ => .bad
def sForT (i m : Nat) (body : Rho → SR) : Rho → SR := fun ρ => match ρ[i]? with
  | some (some (.t (.tup ts))) => forTp m body (fun dn ρ2 => .nx (ρ2.set i (some (.t (.tup dn))))) [] ts (ρ.set i none)
  | _ => .bad
theorem TvAll.snoc {F H : Hp} : ∀ {fd : List Addr} {us : List V} {dn : List Tv} {fq : List Addr} {u : V} {t : Tv}, TvAll K F H fd us dn → TvAt K F H fq u t → TvAll K F H (fd ++ fq) (us ++ [u]) (dn ++ [t])
  | _, _, _, fq, u, t, .nil, h => by
    have := TvAll.cons h (TvAll.nil (K := K) (F := F) (H := H))
    rw [List.append_nil] at this
    exact this
  | _, _, _, _, _, _, .cons a r, h => by
    rw [List.append_assoc]
    exact .cons a (TvAll.snoc r h)
theorem ds_forT (i m : Nat) {tb : TS} {body : Rho → SR} (hb : TDS K W tb body) (kb : Kp [i, m] tb) (him : i ≠ m := by decide) : TDS K W (tFor (iSeq K (tVar i)) (gName m) tb) (sForT i m body) := fun F0 H0 F H σ ρ D S q => by
  obtain ⟨φ, S⟩ := S
  unfold sForT at q
  split at q
  case h_2 => exact q.elim
  rename_i ts hi
  obtain ⟨v, hv, tv⟩ := S.tre i _ hi
  have nd := S.nod i
  have fre := S.fre i
  have dis := S.dis
  have S1 := S.drop (is := [i])
  generalize hfi : φ i = fi at tv nd fre
  cases tv with
  | @tup a us _ _ ha tl =>
    have hlen : us.length = ts.length := tl.length
    have apart : ∀ j p, p ∈ phis φ [i] j → p ∉ [] ++ fi := fun j p h1 h2 => by
      obtain ⟨m1, m2⟩ := phis_mem h1
      rw [List.nil_append, ← hfi] at h2
      exact m1 (by rw [dis j i p m2 h2]; exact List.mem_singleton.mpr rfl)
    have fresh : ∀ p ∈ [] ++ fi, H0 p = none ∧ F p = none := fun p h => ⟨(fre p h).1, (fre p h).2.1⟩
    generalize hfin : (fun (dn : List Tv) (ρ2 : Rho) => SR.nx (ρ2.set i (some (.t (.tup dn))))) = fin at q
    replace q : FinS K W F0 H0 D (forTp m body fin [] ts (killD ρ [i])) := q
    refine ⟨.ref a, hv, .inr (.inl ⟨a, rfl, ⟨us, SqT.of ha⟩, fun k mm σ2 H2 => mm = ts.length - k ∧ ∃ F ρ φ fd fp dn, StF K F0 H0 F H2 σ2 ρ φ ∧ H2 a = some (.tup us) ∧ TvAll K F H2 fd (us.take k) dn ∧ TvAll K F H2 fp (us.drop k) (ts.drop k) ∧ (fd ++ fp).Nodup ∧ (∀ p ∈ fd ++ fp, H0 p = none ∧ F p = none) ∧ (∀ j p, p ∈ φ j → p ∉ fd ++ fp) ∧ Kpt [i] σ σ2 ∧ FinS K W F0 H0 D (forTp m body fin dn (ts.drop k) ρ), ⟨_, rfl, F, _, _, [], fi, [], S1, ha, .nil, tl, nd, fresh, apart, Kpt.refl, q⟩, ?_⟩)⟩
    rintro k mm σ2 H2 ⟨rfl, F2, ρ2, φ2, fd, fp2, dn, S2, ha2, td2, tl2, nd2, fr2, ap2, kp2, k2⟩
    cases ht : ts[k]? with
    | none =>
      have hl := List.getElem?_eq_none_iff.mp ht
      rw [List.drop_eq_nil_of_le hl, ← hfin] at k2
      rw [List.take_of_length_le (by omega)] at td2
      refine .inl ⟨⟨us, SqT.of ha2, by omega⟩, ?_⟩
      have hv2 : σ2[i]? = some (some (.ref a)) := by rw [kp2 i List.mem_cons_self]; exact hv
      have S3 := S2.putT (i := i) (v := .ref a) (x := .tup dn) (fp := fd) (.tup ha2 td2) (List.nodup_append.mp nd2).1 (fun p h => fr2 p (List.mem_append_left _ h)) fun j p _ h1 h2 => ap2 j p h1 (List.mem_append_left _ h2)
      rw [set_same hv2] at S3
      exact k2 σ2 F2 H2 ⟨_, S3⟩
    | some t =>
      have hl := (List.getElem?_eq_some_iff.mp ht).1
      obtain ⟨u, fq, fr, hu, tu, tr, rfl⟩ := tl2.drop1 ht
      rw [List.drop_eq_getElem_cons hl, (List.getElem?_eq_some_iff.mp ht).2] at k2
      refine .inr ⟨⟨us, u, SqT.of ha2, hu⟩, fun σ' H' => ∃ F ρ φ fd fp dn, StF K F0 H0 F H' σ' ρ φ ∧ H' a = some (.tup us) ∧ TvAll K F H' fd (us.take (k + 1)) dn ∧ TvAll K F H' fp (us.drop (k + 1)) (ts.drop (k + 1)) ∧ (fd ++ fp).Nodup ∧ (∀ p ∈ fd ++ fp, H0 p = none ∧ F p = none) ∧ (∀ j p, p ∈ φ j → p ∉ fd ++ fp) ∧ Kpt [i] σ σ' ∧ FinS K W F0 H0 D (forTp m body fin dn (ts.drop (k + 1)) ρ), fun σ' H' h => ⟨_, by omega, rfl, h⟩, fun x H3 y => ?_⟩
      obtain ⟨rfl, y⟩ := y
      have ex := y us (SqT.of ha2)
      rw [hu] at ex; cases ex
      obtain ⟨ndd, nd3, ndx⟩ := List.nodup_append.mp nd2
      obtain ⟨nq, nr, nqr⟩ := List.nodup_append.mp nd3
      have inq : ∀ p ∈ fq, p ∈ fd ++ (fq ++ fr) := fun p h => List.mem_append_right _ (List.mem_append_left _ h)
      have inh : ∀ p ∈ fd ++ fr, p ∈ fd ++ (fq ++ fr) := fun p h => (List.mem_append.mp h).elim (fun z => List.mem_append_left _ z) fun z => List.mem_append_right _ (List.mem_append_right _ z)
      have S3 := S2.putT (i := m) tu.loosen nq (fun p hp => fr2 p (inq p hp)) fun j p _ h1 h2 => ap2 j p h1 (inq p h2)
      have off3 : ∀ j p, p ∈ phi φ2 m fq j → p ∉ fd ++ fr := fun j p h1 h2 => by
        by_cases c : j = m
        · subst c
          rw [phi_same] at h1
          rcases List.mem_append.mp h2 with z | z
          · exact ndx p z p (List.mem_append_left _ h1) rfl
          · exact nqr p h1 p z rfl
        · rw [phi_ne c] at h1
          exact ap2 j p h1 (inh p h2)
      have S4 := S3.hold off3
      have some4 : ∀ p ∈ fd ++ fr, ∃ o, H3 p = some o ∧ ¬ tupO o := fun p hp => by
        rcases List.mem_append.mp hp with z | z
        · exact td2.nt p z
        · exact tr.nt p z
      show tb _ (σ2.set m (some u)) H3
      refine kb.wk ?_
      refine hb F2 (frzF H0 H3 (fd ++ fr)) F2 H3 _ _ _ ⟨_, S4⟩ ?_
      have after : ∀ {ρ4 : Rho} {t' : Tv}, noB ρ4 = true → ρ4[m]? = some (some (.t t')) → FinS K W F0 H0 D (forTp m body fin (dn ++ [t']) (ts.drop (k + 1)) (ρ4.set m none)) → ∀ σ4 F4 H4, StR K F2 (frzF H0 H3 (fd ++ fr)) F4 H4 σ4 ρ4 → Kpt [i, m] (σ2.set m (some u)) σ4 → ∃ F ρ φ fd fp dn, StF K F0 H0 F H4 σ4 ρ φ ∧ H4 a = some (.tup us) ∧ TvAll K F H4 fd (us.take (k + 1)) dn ∧ TvAll K F H4 fp (us.drop (k + 1)) (ts.drop (k + 1)) ∧ (fd ++ fp).Nodup ∧ (∀ p ∈ fd ++ fp, H0 p = none ∧ F p = none) ∧ (∀ j p, p ∈ φ j → p ∉ fd ++ fp) ∧ Kpt [i] σ σ4 ∧ FinS K W F0 H0 D (forTp m body fin dn (ts.drop (k + 1)) ρ) := fun {ρ4 t'} nb em kk σ4 F4 H4 S5 kp4 => by
        obtain ⟨φ5, S5⟩ := S5
        have kp := held_keep S5.ext
        have S6 := (S5.unhold S3.ext nb).drop (is := [m])
        obtain ⟨w, hw, tw⟩ := S5.tre m t' em
        have hm4 : σ4[m]? = (σ2.set m (some u))[m]? := kp4 m (by simp)
        have hw' : w = u := by
          rw [hw] at hm4
          rw [List.getElem?_set_self'] at hm4
          cases e2 : σ2[m]? with
          | none => rw [e2] at hm4; cases hm4
          | some z => rw [e2] at hm4; cases hm4; rfl
        subst hw'
        have off5 : ∀ j p, p ∈ φ5 j → p ∉ fd ++ fr := fun j p hj => held_off S5 (fun p hp => by obtain ⟨o, ho, _⟩ := some4 p hp; rw [ho]; exact Option.some_ne_none o) hj
        have free5 : ∀ p ∈ fd ++ fr, H0 p = none ∧ F4 p = none := fun p hp => by
          obtain ⟨o, ho, hn⟩ := some4 p hp
          exact ⟨(fr2 p (inh p hp)).1, held_free S5.ext hp (fr2 p (inh p hp)).2 ho hn⟩
        have ki : Kpt [i] σ σ4 := fun j hj => by
          rw [List.mem_singleton.mp hj, kp4 i (by simp), List.getElem?_set_ne (fun z => him z.symm)]
          exact kp2 i List.mem_cons_self
        refine ⟨F4, _, phis φ5 [m], fd ++ φ5 m, fr, dn ++ [t'], S6, kp.tup ha2, ?_, tr.keep S5.ext.f (kp.sub fun p hp => List.mem_append_right _ hp), ?_, fun p hp => ?_, fun j p h1 h2 => ?_, ki, kk⟩
        · have hk : us.take (k + 1) = us.take k ++ [w] := by rw [List.take_add_one, hu]; rfl
          rw [hk]
          exact TvAll.snoc (td2.keep S5.ext.f (kp.sub fun p hp => List.mem_append_left _ hp)) tw
        · refine List.nodup_append.mpr ⟨List.nodup_append.mpr ⟨ndd, S5.nod m, fun p h1 q h2 z => off5 m q h2 (by rw [← z]; exact List.mem_append_left _ h1)⟩, nr, fun p h1 q h2 z => ?_⟩
          rcases List.mem_append.mp h1 with y | y
          · exact ndx p y q (List.mem_append_right _ h2) z
          · exact off5 m p y (by rw [z]; exact List.mem_append_right _ h2)
        · rcases List.mem_append.mp hp with z | z
          · rcases List.mem_append.mp z with z | z
            · exact free5 p (List.mem_append_left _ z)
            · have := S5.fre m p z
              exact ⟨frz_none0 S3.ext.h this.1, this.2.1⟩
          · exact free5 p (List.mem_append_right _ z)
        · obtain ⟨m1, m2⟩ := phis_mem h1
          rcases List.mem_append.mp h2 with z | z
          · rcases List.mem_append.mp z with z | z
            · exact off5 j p m2 (List.mem_append_left _ z)
            · exact m1 (by rw [S5.dis j m p m2 z]; exact List.mem_singleton.mpr rfl)
          · exact off5 j p m2 (List.mem_append_right _ z)
      unfold forTp at k2
      cases eb : body (ρ2.set m (some (slOf (loosen t)))) with
      | nx ρ4 =>
        rw [eb] at k2
        by_cases nb : noB ρ4 = true
        · simp only [if_pos nb] at k2
          cases em : ρ4[m]? with
          | none => rw [em] at k2; exact k2.elim
          | some z =>
            cases z with
            | none => rw [em] at k2; exact k2.elim
            | some z =>
              cases z with
              | t t' => rw [em] at k2; exact fun σ4 F4 H4 S5 kp4 => after nb em k2 σ4 F4 H4 S5 kp4
              | d x => rw [em] at k2; exact k2.elim
              | l x => rw [em] at k2; exact k2.elim
              | b x => rw [em] at k2; exact k2.elim
        · simp only [if_neg nb] at k2; exact k2.elim
      | ct ρ4 => rw [eb] at k2; exact k2.elim
      | bk ρ4 => rw [eb] at k2; exact k2.elim
      | rt s => rw [eb] at k2; exact k2.elim
      | exc c => rw [eb] at k2; exact fun cls d σ4 F4 H4 e r => k2 cls d σ4 F4 H4 (S3.ext.unhold e) r
      | bad => rw [eb] at k2; exact k2.elim
section
open PySem.Spec PyProof.Rows
def strK1 (a : Str) : List Key := [.inr a]
def ltS (a b : Str) : Bool := ltKs (strK1 a) (strK1 b)
def sortSt : List Str → List Str := isort ltS
theorem swo_S : SrtO.Swo ltS := swo_keys strK1
theorem tri_S (a b : Str) (h : ltS a b = false) (h2 : ltS b a = false) : a = b := by
  have := ltKs_tri h h2
  unfold strK1 at this
  injection this with this
  injection this
theorem ltCps_eq : ∀ a b : List Nat, ltCps a b = decide (a < b)
  | [], [] => by rw [decide_eq_false (List.lt_irrefl _)]; rfl
  | [], b :: s => by rw [decide_eq_true (List.nil_lt_cons b s)]; rfl
  | a :: r, [] => by rw [decide_eq_false (List.not_lt_nil _)]; rfl
  | a :: r, b :: s => by
    unfold ltCps
    rw [ltCps_eq r s, Bool.eq_iff_iff, decide_eq_true_iff, List.cons_lt_cons_iff, Bool.or_eq_true, Bool.and_eq_true, decide_eq_true_iff, decide_eq_true_iff, beq_iff_eq]
theorem ltS_eq (a b : Str) : ltS a b = ltCps a.cps.toList b.cps.toList := by
  unfold ltS strK1 ltKs
  by_cases c : a = b
  · rw [if_pos (by rw [c]), c, ltCps_eq, decide_eq_false (List.lt_irrefl _)]
    rfl
  · rw [if_neg (fun z => c (by injection z)), ltCps_eq]
    rfl
theorem srt_rising : ∀ (r : List Str) (x : Str), risingS x r = true → SrtO.Srtd ltS (x :: r)
  | [], x, _ => List.pairwise_singleton _ _
  | y :: r, x, h => by
    unfold risingS at h
    rw [Bool.and_eq_true, Bool.not_eq_true', ← ltS_eq] at h
    have ih := srt_rising r y h.2
    refine List.pairwise_cons.mpr ⟨fun z hz => ?_, ih⟩
    rcases List.mem_cons.mp hz with e | e
    · rw [e]; exact h.1
    · exact swo_S.tr x y z h.1 ((List.pairwise_cons.mp ih).1 z e)
theorem srt_of : ∀ (l : List Str), sortedS l = true → SrtO.Srtd ltS l
  | [], _ => List.Pairwise.nil
  | x :: r, h => srt_rising r x h
def sortStrD : List PD → R PD
  | [.list ds] => match asStrs ds with
    | some ws => if ws.length < 64 then .ok (.list ((sortSt ws).map PyData.str)) else .bad
    | none => .bad
  | _ => .bad
theorem rco_sortStr : RCo K (L2.rSortedS K) sortStrD := fun W σ F H vs ds Q s rs q => by
  unfold sortStrD at q
  split at q
  · obtain ⟨v, rfl, rv⟩ := rs.one
    obtain ⟨p, us, rfl, s1, r1⟩ := rv.list s
    split at q
    · rename_i ws e
      have ed := asStrs_ok e
      subst ed
      have eu := r1.of_strs
      subst eu
      split at q
      · rename_i hl
        refine ⟨p, ws, rfl, .inl s1, hl, fun ys D hp hs hD => ?_⟩
        have : ys = sortSt ws := isort_of swo_S tri_S (srt_of ys hs) hp
        rw [this]
        exact q F _ (Ext.own s hD) D hD (s.free hD) ⟨_, upd_same, DpAll.strs⟩
      · exact q.elim
    · exact q.elim
  · exact q.elim
end
end
end DL
namespace DL
open PySem L2
def cs (z : Str) : List Nat := z.cps.toList
def sg (c : Nat) : Str := ⟨#[c]⟩
theorem cs_len (z : Str) : (cs z).length = z.length := Array.length_toList
theorem cs_ext {z w : Str} (h : cs z = cs w) : z = w := by
  cases z
  cases w
  unfold cs at h
  simp only at h
  rw [Array.toList_inj.mp h]
@[simp] theorem cs_sg (c : Nat) : cs (sg c) = [c] := rfl
@[simp] theorem sg_len (c : Nat) : (sg c).length = 1 := rfl
@[simp] theorem cs_app (z w : Str) : cs (z ++ w) = cs z ++ cs w := by
  show (z ++ w).cps.toList = _
  rw [PySem.Str.cps_append]
  simp [cs]
@[simp] theorem len_app (z w : Str) : (z ++ w).length = z.length + w.length := PySem.Str.length_append z w
section
variable {α β : Type} (ρ ρ' : Rho) (g ga gb gc : Rho → R PD) (gt gt' : Rho → R Bool) (f f' : PD → PD → R PD) (gr : Rho → R (List PD)) (s s' : Rho → SR) (i : Nat)
@[simp] theorem x_bind_ok (a : α) (f : α → R β) : (R.ok a).bind f = f a := rfl
@[simp] theorem x_bind_exc (c : Ec) (f : α → R β) : (R.exc c : R α).bind f = .exc c := rfl
@[simp] theorem x_bind_bad (f : α → R β) : (R.bad : R α).bind f = .bad := rfl
@[simp] theorem x_eC (x : PD) : eC x ρ = .ok x := rfl
@[simp] theorem x_eOp : eOp f ga gb ρ = (ga ρ).bind fun a => (gb ρ).bind fun b => f a b := rfl
@[simp] theorem x_eUn (f : PD → R PD) : eUn f ga ρ = (ga ρ).bind f := rfl
@[simp] theorem x_eFz : eFz g ρ = (g ρ).bind notDict := rfl
@[simp] theorem x_notDict (l : List PD) : notDict (.list l) = .ok (.list l) := rfl
@[simp] theorem x_bOf : bOf g ρ = (g ρ).bind asB := rfl
@[simp] theorem x_asB (b : Bool) : asB (.bool b) = .ok b := rfl
@[simp] theorem x_bAnd : bAnd gt gt' ρ = (gt ρ).bind fun c => if c = true then gt' ρ else .ok false := rfl
@[simp] theorem x_bOr : bOr gt gt' ρ = (gt ρ).bind fun c => if c = true then .ok true else gt' ρ := rfl
@[simp] theorem x_bNot : bNot gt ρ = (gt ρ).bind fun c => .ok !c := rfl
@[simp] theorem x_eAnd : eAnd ga gb ρ = (ga ρ).bind fun a => (asB a).bind fun c => if c = true then gb ρ else .ok (.bool false) := rfl
@[simp] theorem x_eOr : eOr ga gb ρ = (ga ρ).bind fun a => (asB a).bind fun c => if c = true then .ok (.bool true) else gb ρ := rfl
@[simp] theorem x_eNot : eNot ga ρ = (ga ρ).bind fun a => (asB a).bind fun c => .ok (.bool !c) := rfl
@[simp] theorem x_eIf : eIf gt ga gb ρ = (gt ρ).bind fun c => if c = true then ga ρ else gb ρ := rfl
@[simp] theorem x_eChain : eChain f f' ga gb gc ρ = (ga ρ).bind fun a => (gb ρ).bind fun b => (f a b).bind fun z => (asB z).bind fun k => if k = true then (gc ρ).bind fun c => f' b c else .ok (.bool false) := rfl
@[simp] theorem x_aNil : aNil ρ = .ok [] := rfl
@[simp] theorem x_aCons : aCons ga gr ρ = (ga ρ).bind fun a => (gr ρ).bind fun l => .ok (a :: l) := rfl
@[simp] theorem x_eTup : eTup gr ρ = (gr ρ).bind fun l => if l.length ≤ sizeLine then .ok (.tuple l) else .bad := rfl
@[simp] theorem x_oLst : oLst gr ρ = (gr ρ).bind fun l => if l.length ≤ sizeLine then .ok (.list l) else .bad := rfl
@[simp] theorem x_eCB (f : List PD → R PD) : eCB f gr ρ = (gr ρ).bind f := rfl
@[simp] theorem x_eCall (n : Nat) (f : List PD → FR) : eCall n f gr ρ = (gr ρ).bind fun ds => if ds.length = n then (f ds).toE else .bad := rfl
@[simp] theorem x_oCall (n : Nat) (f : List PD → FR) : oCall n f gr ρ = (gr ρ).bind fun ds => if ds.length = n then (f ds).toO else .bad := rfl
@[simp] theorem x_eCallR (n : Nat) (f : List PD → FR) : eCallR n f gr ρ = (gr ρ).bind fun ds => if ds.length = n ∧ ds.all (fun d => !isDict d) = true then (f ds).toS else .bad := rfl
@[simp] theorem x_eCall0 (f : List PD → FR) : eCall0 f ρ = noExc (f []).toE := rfl
@[simp] theorem x_oCall0 (f : List PD → FR) : oCall0 f ρ = noExc (f []).toO := rfl
@[simp] theorem x_noExc_ok (a : α) : noExc (R.ok a) = .ok a := rfl
@[simp] theorem x_toE_d (x : PD) : (FR.rt (.d x)).toE = .ok x := rfl
@[simp] theorem x_toE_o (l : List PD) : (FR.rt (.o (.list l))).toE = .ok (.list l) := rfl
@[simp] theorem x_toE_x (c : Ec) : (FR.exc c).toE = .exc c := rfl
@[simp] theorem x_toO_o (x : PD) : (FR.rt (.o x)).toO = .ok x := rfl
@[simp] theorem x_toO_x (c : Ec) : (FR.exc c).toO = .exc c := rfl
@[simp] theorem x_toS (x : PD) : (FR.rt (.d x)).toS = if scalD x = true then .ok x else .bad := rfl
@[simp] theorem x_scal_i (i : Int) : scalD (.int i) = true := rfl
@[simp] theorem x_scal_b (i : Bool) : scalD (.bool i) = true := rfl
@[simp] theorem x_scal_s (i : Str) : scalD (.str i) = true := rfl
@[simp] theorem x_scal_n : scalD .none = true := rfl
@[simp] theorem x_dict_l (l : List PD) : isDict (.list l) = false := rfl
@[simp] theorem x_dict_t (l : List PD) : isDict (.tuple l) = false := rfl
@[simp] theorem x_dict_i (l : Int) : isDict (.int l) = false := rfl
@[simp] theorem x_dict_s (l : Str) : isDict (.str l) = false := rfl
@[simp] theorem x_dict_b (l : Bool) : isDict (.bool l) = false := rfl
@[simp] theorem x_dict_n : isDict .none = false := rfl
@[simp] theorem x_eIsi (T : String) : eIsi T g ρ = (g ρ).bind (isiD T) := rfl
@[simp] theorem x_eM0 (f : PD → List PD → R PD) : eM0 f g ρ = (g ρ).bind fun a => strOf a (f a []) := rfl
@[simp] theorem x_eM1 (f : PD → List PD → R PD) : eM1 f g ga ρ = (g ρ).bind fun a => strOf a ((ga ρ).bind fun b => f a [b]) := rfl
@[simp] theorem x_strOf (z : Str) (k : R PD) : strOf (.str z) k = k := rfl
@[simp] theorem x_eSl (gl gh : Rho → R (Option Int)) : eSl g gl gh ρ = (g ρ).bind fun a => (gl ρ).bind fun l => (gh ρ).bind fun h => slD a l h := rfl
@[simp] theorem x_oSl (gl gh : Rho → R (Option Int)) : oSl g gl gh ρ = (g ρ).bind fun a => (gl ρ).bind fun l => (gh ρ).bind fun h => slL a l h := rfl
@[simp] theorem x_pNo : pNo ρ = .ok none := rfl
@[simp] theorem x_pSo : pSo g ρ = (g ρ).bind fun a => (asI a).bind fun i => .ok (some i) := rfl
@[simp] theorem x_asI (j : Int) : asI (.int j) = .ok j := rfl
@[simp] theorem x_sSeq : sSeq s s' ρ = (s ρ).seq s' := rfl
@[simp] theorem x_seq_nx (k : Rho → SR) : (SR.nx ρ).seq k = k ρ := rfl
@[simp] theorem x_seq_rt (x : Sl) (k : Rho → SR) : (SR.rt x).seq k = .rt x := rfl
@[simp] theorem x_seq_bk (k : Rho → SR) : (SR.bk ρ).seq k = .bk ρ := rfl
@[simp] theorem x_seq_ct (k : Rho → SR) : (SR.ct ρ).seq k = .ct ρ := rfl
@[simp] theorem x_seq_exc (c : Ec) (k : Rho → SR) : (SR.exc c).seq k = .exc c := rfl
@[simp] theorem x_seq_bad (k : Rho → SR) : SR.bad.seq k = .bad := rfl
@[simp] theorem x_of_ok (a : α) (k : α → SR) : SR.of (.ok a) k = k a := rfl
@[simp] theorem x_of_exc (c : Ec) (k : α → SR) : SR.of (.exc c) k = .exc c := rfl
@[simp] theorem x_of_bad (k : α → SR) : SR.of (.bad) k = .bad := rfl
@[simp] theorem x_sNext : sNext ρ = .nx ρ := rfl
@[simp] theorem x_sBreak : sBreak ρ = .bk ρ := rfl
@[simp] theorem x_sCont : sCont ρ = .ct ρ := rfl
@[simp] theorem x_sSet : sSet i g ρ = SR.of (g ρ) fun x => .nx (ρ.set i (some (.d x))) := rfl
@[simp] theorem x_sSetO : sSetO i g ρ = SR.of (g ρ) fun x => .nx (ρ.set i (some (.o x))) := rfl
@[simp] theorem x_sAsg (a : Rho → PD → R Rho) : sAsg g a ρ = SR.of (g ρ) fun x => SR.ofT (a ρ x) := rfl
@[simp] theorem x_ofT : SR.ofT (.ok ρ) = .nx ρ := rfl
@[simp] theorem x_sRet : sRet g ρ = SR.of (g ρ) fun x => .rt (.d x) := rfl
@[simp] theorem x_sRetO : sRetO g ρ = SR.of (g ρ) fun x => .rt (.o x) := rfl
@[simp] theorem x_sIf : sIf gt s s' ρ = SR.of (gt ρ) fun c => if c = true then s ρ else s' ρ := rfl
@[simp] theorem x_sDrop : sDrop g ρ = SR.of (g ρ) fun _ => .nx ρ := rfl
@[simp] theorem x_sFor (gi : Rho → R (List PD)) (a : Rho → PD → R Rho) : sFor gi a s ρ = SR.of (gi ρ) fun ds => forD a s ds ρ := rfl
@[simp] theorem x_aName (x : PD) : aName i ρ x = .ok (ρ.set i (some (.d x))) := rfl
@[simp] theorem x_aTup (n : Nat) (b : Rho → List PD → R Rho) (xs : List PD) : aTup n b ρ (.tuple xs) = if xs.length = n then b ρ xs else .bad := rfl
@[simp] theorem x_asNil : asNil ρ [] = .ok ρ := rfl
@[simp] theorem x_asCons (a : Rho → PD → R Rho) (b : Rho → List PD → R Rho) (x : PD) (xs : List PD) : asCons a b ρ (x :: xs) = (a ρ x).bind fun ρ' => b ρ' xs := rfl
@[simp] theorem x_iItems : iItems g ρ = (g ρ).bind itemsOf := rfl
@[simp] theorem x_items_l (l : List PD) : itemsOf (.list l) = .ok l := rfl
@[simp] theorem x_items_t (l : List PD) : itemsOf (.tuple l) = .ok l := rfl
@[simp] theorem x_items_s (l : Str) : itemsOf (.str l) = .ok ((cs l).map fun c => .str (sg c)) := rfl
@[simp] theorem x_iRng1 : iRng1D gr ρ = (gr ρ).bind rng1 := rfl
@[simp] theorem x_iRng2 : iRng2D gr ρ = (gr ρ).bind rng2 := rfl
@[simp] theorem x_iEnum : iEnumD gr ρ = (gr ρ).bind enumO := rfl
@[simp] theorem x_enumO (l : List PD) : enumO [.list l] = .ok (enumD l) := rfl
@[simp] theorem x_iZip : iZipD gr ρ = (gr ρ).bind zipO := rfl
@[simp] theorem x_zipO (l m : List PD) : zipO [.list l, .list m] = .ok (zipD l m) := rfl
@[simp] theorem x_iRev : iRevD gr ρ = (gr ρ).bind revO := rfl
@[simp] theorem x_revO (l : List PD) : revO [.list l] = .ok l.reverse := rfl
@[simp] theorem x_gYes : gYes ρ = .ok true := rfl
@[simp] theorem x_oLc (gi : Rho → R (List PD)) (a : Rho → PD → R Rho) (ge : Rho → R PD) (vs : List Nat) : oLc gi a gt ge vs ρ = (gi ρ).bind fun ds => (noExc (lcL (lcE a gt ge (wipeD ρ vs)) ds)).bind fun l => if l.length ≤ sizeLine then .ok (.list l) else .bad := rfl
@[simp] theorem x_wipe_nil : wipeD ρ [] = ρ := rfl
@[simp] theorem x_wipe_cons (v : Nat) (vs : List Nat) : wipeD ρ (v :: vs) = (wipeD ρ vs).set v none := rfl
@[simp] theorem x_fr_nx : (SR.nx ρ).fr = .rt (.d .none) := rfl
@[simp] theorem x_fr_rt (x : Sl) : (SR.rt x).fr = .rt x := rfl
@[simp] theorem x_fr_exc (c : Ec) : (SR.exc c).fr = .exc c := rfl
@[simp] theorem x_run (n : Nat) (ds : List PD) : runD n s ds = (s (startD n ds)).fr := rfl
@[simp] theorem x_sFrz (is : List Nat) : sFrz is s ρ = s (is.foldl (fun ρ i => frz1 i ρ) ρ) := rfl
@[simp] theorem x_add_i (i j : Int) : addD (.int i) (.int j) = .ok (.int (i + j)) := rfl
@[simp] theorem x_add_s (i j : Str) : addD (.str i) (.str j) = if i.length + j.length ≤ sizeLine then .ok (.str (i ++ j)) else .bad := rfl
@[simp] theorem x_add_l (i j : List PD) : addD (.list i) (.list j) = if i.length + j.length ≤ sizeLine then .ok (.list (i ++ j)) else .bad := rfl
@[simp] theorem x_add_t (i j : List PD) : addD (.tuple i) (.tuple j) = if i.length + j.length ≤ sizeLine then .ok (.tuple (i ++ j)) else .bad := rfl
@[simp] theorem x_addL (i j : List PD) : addL (.list i) (.list j) = if i.length + j.length ≤ sizeLine then .ok (.list (i ++ j)) else .bad := rfl
@[simp] theorem x_sub_i (i j : Int) : subD (.int i) (.int j) = .ok (.int (i - j)) := rfl
@[simp] theorem x_neg_i (i : Int) : negD (.int i) = .ok (.int (-i)) := rfl
@[simp] theorem x_cmp_i (p : Int → Int → Bool) (i j : Int) : cmpD p (.int i) (.int j) = .ok (.bool (p i j)) := rfl
@[simp] theorem x_eq (a b : PD) : eqD a b = (eqB a b).bind fun c => .ok (.bool c) := rfl
@[simp] theorem x_ne (a b : PD) : neD a b = (eqB a b).bind fun c => .ok (.bool !c) := rfl
@[simp] theorem x_eqB_i (i j : Int) : eqB (.int i) (.int j) = .ok (decide (i = j)) := rfl
@[simp] theorem x_eqB_s (i j : Str) : eqB (.str i) (.str j) = .ok (decide (i = j)) := rfl
@[simp] theorem x_eqB_b (i j : Bool) : eqB (.bool i) (.bool j) = .ok (decide (i = j)) := rfl
@[simp] theorem x_isN (a : PD) : isND a .none = .ok (.bool (isNB a)) := rfl
@[simp] theorem x_notN (a : PD) : notND a .none = .ok (.bool (!isNB a)) := rfl
@[simp] theorem x_isNB_n : isNB .none = true := rfl
@[simp] theorem x_isNB_i (i : Int) : isNB (.int i) = false := rfl
@[simp] theorem x_isNB_s (i : Str) : isNB (.str i) = false := rfl
@[simp] theorem x_isNB_b (i : Bool) : isNB (.bool i) = false := rfl
@[simp] theorem x_isNB_l (i : List PD) : isNB (.list i) = false := rfl
@[simp] theorem x_isNB_t (i : List PD) : isNB (.tuple i) = false := rfl
@[simp] theorem x_in (a b : PD) : inD a b = (inB a b).bind fun c => .ok (.bool c) := rfl
@[simp] theorem x_nin (a b : PD) : ninD a b = (inB a b).bind fun c => .ok (.bool !c) := rfl
theorem inS_one (z : Str) (c : Nat) : inS ⟨#[c]⟩ z = decide (c ∈ z.cps.toList) := PySem.StrLaws.found_one z c
@[simp] theorem x_in_sign (z : Str) (c : Nat) : inB (.str (sg c)) (.str z) = .ok (decide (c ∈ cs z)) := by
  show R.ok (inS _ _) = _
  unfold sg
  rw [inS_one]
  rfl
theorem flat_strs : ∀ l : List Str, (l.map PyData.str).all flatP = true
  | [] => rfl
  | _ :: l => by rw [List.map_cons, List.all_cons, flat_strs l]; rfl
theorem any_strs (z : Str) : ∀ l : List Str, ((l.map PyData.str).any fun d => eqF d (.str z)) = decide (z ∈ l)
  | [] => by simp
  | x :: l => by
    rw [List.map_cons, List.any_cons, any_strs z l]
    show ((x == z) || decide (z ∈ l)) = _
    by_cases h : x = z
    · subst h; simp
    · have h' : (x == z) = false := by simpa using h
      have h2 : ¬ z = x := fun e => h e.symm
      simp [h', h2]
@[simp] theorem x_in_strs (z : Str) (l : List Str) : inB (.str z) (.list (l.map PyData.str)) = .ok (decide (z ∈ l)) := by
  show (if flatP (.str z) = true ∧ (l.map PyData.str).all flatP = true then R.ok ((l.map PyData.str).any fun d => eqF d (.str z)) else _) = _
  rw [if_pos ⟨rfl, flat_strs l⟩, any_strs]
@[simp] theorem x_in_strsT (z : Str) (l : List Str) : inB (.str z) (.tuple (l.map PyData.str)) = .ok (decide (z ∈ l)) := by
  show (if flatP (.str z) = true ∧ (l.map PyData.str).all flatP = true then R.ok ((l.map PyData.str).any fun d => eqF d (.str z)) else _) = _
  rw [if_pos ⟨rfl, flat_strs l⟩, any_strs]
theorem x_mod (i j : Int) (h : 0 < j) : modD (.int i) (.int j) = .ok (.int (i % j)) := by
  show (if modB i j = true then R.ok (PyData.int (i.fmod j)) else _) = _
  have h1 : modB i j = true := by unfold modB; exact decide_eq_true (by omega)
  rw [if_pos h1, Int.fmod_eq_emod_of_nonneg _ (by omega)]
theorem x_div (i j : Int) (h : 0 < j) (h2 : j < 1073741824) : divD (.int i) (.int j) = .ok (.int (i / j)) := by
  show (if divB i j = true then R.ok (PyData.int (i.fdiv j)) else _) = _
  have h1 : divB i j = true := by unfold divB; rw [Bool.and_eq_true]; exact ⟨decide_eq_true (by omega), decide_eq_true (by omega)⟩
  rw [if_pos h1, Int.fdiv_eq_ediv_of_nonneg _ (by omega)]
theorem x_mul_l (i j : Int) (h : -(2 ^ 64) < i) (h2 : i < 2 ^ 64) : mulD (.int i) (.int j) = .ok (.int (i * j)) := by
  show (if mulB i j = true then R.ok (PyData.int (i * j)) else _) = _
  rw [if_pos (by unfold mulB; simp only [Bool.or_eq_true, Bool.and_eq_true, decide_eq_true_eq]; exact .inl ⟨h, h2⟩)]
theorem x_mul_r (i j : Int) (h : -(2 ^ 64) < j) (h2 : j < 2 ^ 64) : mulD (.int i) (.int j) = .ok (.int (i * j)) := by
  show (if mulB i j = true then R.ok (PyData.int (i * j)) else _) = _
  rw [if_pos (by unfold mulB; simp only [Bool.or_eq_true, Bool.and_eq_true, decide_eq_true_eq]; exact .inr ⟨h, h2⟩)]
theorem x_mul_s (z : Str) (k : Int) (h : -(2 ^ 62) ≤ k) (h2 : k < 2 ^ 62) (h3 : z.length * k.toNat ≤ sizeLine) : mulD (.str z) (.int k) = .ok (.str (mulS z k)) := by
  show (if small62 k = true ∧ z.length * k.toNat ≤ sizeLine then R.ok (PyData.str (mulS z k)) else _) = _
  rw [if_pos ⟨by unfold small62; rw [Bool.and_eq_true]; exact ⟨decide_eq_true h, decide_eq_true h2⟩, h3⟩]
theorem atI_nn {γ : Type} (l : List γ) (i : Int) (h : 0 ≤ i) : atI l i = l[i.toNat]? := by
  unfold atI ixN
  rw [if_pos h]
  split
  · rfl
  · rename_i h2
    exact (List.getElem?_eq_none (by omega)).symm
theorem x_ix_l (l : List PD) (i : Int) (d : PD) (h : 0 ≤ i) (e : l[i.toNat]? = some d) : ixD (.list l) (.int i) = .ok d := by
  show (match atI l i with | some d => R.ok d | none => .bad) = _
  rw [atI_nn l i h, e]
theorem x_ix_t (l : List PD) (i : Int) (d : PD) (h : 0 ≤ i) (e : l[i.toNat]? = some d) : ixD (.tuple l) (.int i) = .ok d := by
  show (match atI l i with | some d => R.ok d | none => .bad) = _
  rw [atI_nn l i h, e]
theorem x_ix_s (z : Str) (i : Int) (c : Nat) (hz : z.length ≤ sizeLine) (h : 0 ≤ i) (e : (cs z)[i.toNat]? = some c) : ixD (.str z) (.int i) = .ok (.str (sg c)) := by
  unfold cs at e
  show (if z.length ≤ sizeLine then (match atI z.cps.toList i with | some c => R.ok (PyData.str ⟨#[c]⟩) | none => .bad) else .bad) = _
  rw [if_pos hz, atI_nn _ i h, e]
  rfl
@[simp] theorem x_sl_l (l : List PD) (a b : Option Int) : slD (.list l) a b = .ok (.list (cutD l a b)) := rfl
@[simp] theorem x_sl_t (l : List PD) (a b : Option Int) : slD (.tuple l) a b = .ok (.tuple (cutD l a b)) := rfl
@[simp] theorem x_sl_s (z : Str) (a b : Option Int) : slD (.str z) a b = if z.length ≤ sizeLine then .ok (.str (cutS z a b)) else .bad := rfl
@[simp] theorem x_slL (l : List PD) (a b : Option Int) : slL (.list l) a b = .ok (.list (cutD l a b)) := rfl
@[simp] theorem x_len_l (l : List PD) : lenD [.list l] = .ok (.int l.length) := rfl
@[simp] theorem x_len_t (l : List PD) : lenD [.tuple l] = .ok (.int l.length) := rfl
@[simp] theorem x_len_s (z : Str) : lenD [.str z] = if z.length ≤ sizeLine then .ok (.int z.length) else .bad := rfl
@[simp] theorem x_list_l (l : List PD) : listD [.list l] = .ok (.list l) := rfl
@[simp] theorem x_list_t (l : List PD) : listD [.tuple l] = .ok (.list l) := rfl
@[simp] theorem x_tuple_l (l : List PD) : tupleD [.list l] = .ok (.tuple l) := rfl
@[simp] theorem x_tuple_t (l : List PD) : tupleD [.tuple l] = .ok (.tuple l) := rfl
@[simp] theorem x_sum (l : List Int) : sumD [.list (l.map PyData.int)] = .ok (.int l.sum) := by
  show (match asInts (l.map PyData.int) with | some ns => R.ok (PyData.int ns.sum) | none => .bad) = _
  rw [asInts_map]
@[simp] theorem x_any (l : List Bool) : anyD [.list (l.map PyData.bool)] = .ok (.bool (l.any id)) := by
  show (match asBools (l.map PyData.bool) with | some ns => R.ok (PyData.bool (ns.any id)) | none => .bad) = _
  rw [asBools_map]
@[simp] theorem x_all (l : List Bool) : allD [.list (l.map PyData.bool)] = .ok (.bool (l.all id)) := by
  show (match asBools (l.map PyData.bool) with | some ns => R.ok (PyData.bool (ns.all id)) | none => .bad) = _
  rw [asBools_map]
@[simp] theorem x_int_i (i : Int) : intD [.int i] = .ok (.int i) := rfl
@[simp] theorem x_int_b (i : Bool) : intD [.bool i] = .ok (.int (if i = true then 1 else 0)) := rfl
theorem x_int_s (z : Str) (n : Int) (h : PySem.intText? z = some n) (hz : z.length ≤ 640) : intD [.str z] = .ok (.int n) := by
  show (match PySem.intText? z with | some n => if z.length ≤ 640 then R.ok (PyData.int n) else .bad | none => .bad) = _
  rw [h]
  exact if_pos hz
theorem x_str (i : Int) (h : i.natAbs.log2 < 1920) : strD [.int i] = .ok (.str (toString i)) := if_pos h
@[simp] theorem x_max2 (i j : Int) : max2D [.int i, .int j] = .ok (.int (if j > i then j else i)) := rfl
@[simp] theorem x_min2 (i j : Int) : min2D [.int i, .int j] = .ok (.int (if j < i then j else i)) := rfl
@[simp] theorem x_starts (a b : Str) : startsD (.str a) [.str b] = .ok (.bool (Txt.startswith a b)) := rfl
@[simp] theorem x_count (a b : Str) : countD (.str a) [.str b] = .ok (.int (Txt.count a b)) := rfl
@[simp] theorem x_words (a : Str) : wordsD (.str a) [] = if a.length + 2 ≤ sizeLine then .ok (.list ((Txt.words a).map PyData.str)) else .bad := rfl
@[simp] theorem x_split (a b : Str) : splitD (.str a) [.str b] = if (b.length == 0) = false ∧ a.length + 2 ≤ sizeLine then .ok (.list ((Txt.split a b).map PyData.str)) else .bad := rfl
theorem x_join (a : Str) (ys : List Str) (h : (ys.map (·.length)).sum + ys.length * a.length ≤ 16777216) : joinD (.str a) [.list (ys.map PyData.str)] = .ok (.str (Txt.join a ys)) := by
  show (match asStrs (ys.map PyData.str) with | some ys => if (ys.map (fun y : Str => y.length)).sum + ys.length * a.length ≤ 16777216 then R.ok (PyData.str (Txt.join a ys)) else .bad | none => .bad) = _
  rw [asStrs_map]
  exact if_pos h
theorem x_rng1 (j : Int) (h : -(2 ^ 62) ≤ j) (h2 : j < 2 ^ 62) : rng1 [.int j] = .ok (rngD 0 j.toNat) := by
  show (if small62 j = true then R.ok (rngD 0 j.toNat) else .bad) = _
  rw [if_pos (by unfold small62; rw [Bool.and_eq_true]; exact ⟨decide_eq_true h, decide_eq_true h2⟩)]
end
theorem isi (T : String) (a : PD) (b : Bool) (h : isiB T a = some b) : isiD T a = .ok (.bool b) := by
  unfold isiD
  rw [h]
@[simp] theorem isi_bool_b (b : Bool) : isiD "bool" (.bool b) = .ok (.bool true) := isi _ _ _ (show L2.kitB "bool" "bool" = some true by decide +kernel)
@[simp] theorem isi_bool_i (b : Int) : isiD "bool" (.int b) = .ok (.bool false) := isi _ _ _ (show L2.kitB "int" "bool" = some false by decide +kernel)
@[simp] theorem isi_bool_s (b : Str) : isiD "bool" (.str b) = .ok (.bool false) := isi _ _ _ (show L2.kitB "str" "bool" = some false by decide +kernel)
@[simp] theorem isi_bool_n : isiD "bool" .none = .ok (.bool false) := isi _ _ _ (show L2.kitB "NoneType" "bool" = some false by decide +kernel)
@[simp] theorem isi_bool_l (b : List PD) : isiD "bool" (.list b) = .ok (.bool false) := isi _ _ _ (show L2.kitB "list" "bool" = some false by decide +kernel)
@[simp] theorem isi_bool_t (b : List PD) : isiD "bool" (.tuple b) = .ok (.bool false) := isi _ _ _ (show L2.kitB "tuple" "bool" = some false by decide +kernel)
@[simp] theorem isi_int_b (b : Bool) : isiD "int" (.bool b) = .ok (.bool true) := isi _ _ _ (show L2.kitB "bool" "int" = some true by decide +kernel)
@[simp] theorem isi_int_i (b : Int) : isiD "int" (.int b) = .ok (.bool true) := isi _ _ _ (show L2.kitB "int" "int" = some true by decide +kernel)
@[simp] theorem isi_int_s (b : Str) : isiD "int" (.str b) = .ok (.bool false) := isi _ _ _ (show L2.kitB "str" "int" = some false by decide +kernel)
@[simp] theorem isi_int_n : isiD "int" .none = .ok (.bool false) := isi _ _ _ (show L2.kitB "NoneType" "int" = some false by decide +kernel)
@[simp] theorem isi_int_l (b : List PD) : isiD "int" (.list b) = .ok (.bool false) := isi _ _ _ (show L2.kitB "list" "int" = some false by decide +kernel)
@[simp] theorem isi_int_t (b : List PD) : isiD "int" (.tuple b) = .ok (.bool false) := isi _ _ _ (show L2.kitB "tuple" "int" = some false by decide +kernel)
@[simp] theorem isi_str_b (b : Bool) : isiD "str" (.bool b) = .ok (.bool false) := isi _ _ _ (show L2.kitB "bool" "str" = some false by decide +kernel)
@[simp] theorem isi_str_i (b : Int) : isiD "str" (.int b) = .ok (.bool false) := isi _ _ _ (show L2.kitB "int" "str" = some false by decide +kernel)
@[simp] theorem isi_str_s (b : Str) : isiD "str" (.str b) = .ok (.bool true) := isi _ _ _ (show L2.kitB "str" "str" = some true by decide +kernel)
@[simp] theorem isi_str_n : isiD "str" .none = .ok (.bool false) := isi _ _ _ (show L2.kitB "NoneType" "str" = some false by decide +kernel)
@[simp] theorem isi_str_l (b : List PD) : isiD "str" (.list b) = .ok (.bool false) := isi _ _ _ (show L2.kitB "list" "str" = some false by decide +kernel)
@[simp] theorem isi_str_t (b : List PD) : isiD "str" (.tuple b) = .ok (.bool false) := isi _ _ _ (show L2.kitB "tuple" "str" = some false by decide +kernel)
@[simp] theorem isi_list_b (b : Bool) : isiD "list" (.bool b) = .ok (.bool false) := isi _ _ _ (show L2.kitB "bool" "list" = some false by decide +kernel)
@[simp] theorem isi_list_i (b : Int) : isiD "list" (.int b) = .ok (.bool false) := isi _ _ _ (show L2.kitB "int" "list" = some false by decide +kernel)
@[simp] theorem isi_list_s (b : Str) : isiD "list" (.str b) = .ok (.bool false) := isi _ _ _ (show L2.kitB "str" "list" = some false by decide +kernel)
@[simp] theorem isi_list_n : isiD "list" .none = .ok (.bool false) := isi _ _ _ (show L2.kitB "NoneType" "list" = some false by decide +kernel)
@[simp] theorem isi_list_l (b : List PD) : isiD "list" (.list b) = .ok (.bool true) := isi _ _ _ (show L2.kitB "list" "list" = some true by decide +kernel)
@[simp] theorem isi_list_t (b : List PD) : isiD "list" (.tuple b) = .ok (.bool false) := isi _ _ _ (show L2.kitB "tuple" "list" = some false by decide +kernel)
@[simp] theorem isi_tuple_b (b : Bool) : isiD "tuple" (.bool b) = .ok (.bool false) := isi _ _ _ (show L2.kitB "bool" "tuple" = some false by decide +kernel)
@[simp] theorem isi_tuple_i (b : Int) : isiD "tuple" (.int b) = .ok (.bool false) := isi _ _ _ (show L2.kitB "int" "tuple" = some false by decide +kernel)
@[simp] theorem isi_tuple_s (b : Str) : isiD "tuple" (.str b) = .ok (.bool false) := isi _ _ _ (show L2.kitB "str" "tuple" = some false by decide +kernel)
@[simp] theorem isi_tuple_n : isiD "tuple" .none = .ok (.bool false) := isi _ _ _ (show L2.kitB "NoneType" "tuple" = some false by decide +kernel)
@[simp] theorem isi_tuple_l (b : List PD) : isiD "tuple" (.list b) = .ok (.bool false) := isi _ _ _ (show L2.kitB "list" "tuple" = some false by decide +kernel)
@[simp] theorem isi_tuple_t (b : List PD) : isiD "tuple" (.tuple b) = .ok (.bool true) := isi _ _ _ (show L2.kitB "tuple" "tuple" = some true by decide +kernel)
theorem forD_by {a : Rho → PD → R Rho} {body : Rho → SR} {P : SR → Prop} {xs : List PD} (I : Nat → Rho → Prop) {ρ : Rho} (h0 : I 0 ρ)
    (hs : ∀ (i : Nat) (x : PD) (ρ : Rho), xs[i]? = some x → I i ρ → ∃ ρ1, a ρ x = .ok ρ1 ∧ (match body ρ1 with
      | .nx ρ2 => I (i + 1) ρ2
      | .ct ρ2 => I (i + 1) ρ2
      | .bk ρ2 => P (.nx ρ2)
      | .rt s => P (.rt s)
      | .exc c => P (.exc c)
      | .bad => P .bad))
    (he : ∀ ρ, I xs.length ρ → P (.nx ρ)) : P (forD a body xs ρ) := by
  have go : ∀ (n i : Nat) (ρ : Rho), xs.length - i = n → i ≤ xs.length → I i ρ → P (forD a body (xs.drop i) ρ) := by
    intro n
    induction n with
    | zero =>
      intro i ρ h1 h2 h3
      have e : i = xs.length := by omega
      subst e
      rw [List.drop_length]
      exact he ρ h3
    | succ n ih =>
      intro i ρ h1 h2 h3
      have hl : i < xs.length := by omega
      rw [List.drop_eq_getElem_cons hl]
      obtain ⟨ρ1, e1, h4⟩ := hs i xs[i] ρ (List.getElem?_eq_getElem hl) h3
      unfold forD
      rw [e1]
      simp only
      cases e : body ρ1 with
      | nx ρ2 => rw [e] at h4; exact ih (i + 1) ρ2 (by omega) hl h4
      | ct ρ2 => rw [e] at h4; exact ih (i + 1) ρ2 (by omega) hl h4
      | bk ρ2 => rw [e] at h4; exact h4
      | rt s => rw [e] at h4; exact h4
      | exc c => rw [e] at h4; exact h4
      | bad => rw [e] at h4; exact h4
  exact go xs.length 0 ρ (by omega) (Nat.zero_le _) h0
theorem lcL_map {h : PD → R (Option PD)} : ∀ {xs : List PD} {f : PD → PD}, (∀ x ∈ xs, h x = .ok (some (f x))) → lcL h xs = .ok (xs.map f)
  | [], _, _ => rfl
  | x :: xs, f, e => by
    unfold lcL
    rw [e x List.mem_cons_self, lcL_map fun y hy => e y (List.mem_cons_of_mem _ hy)]
    rfl
end DL
namespace DL
open PySem L2
theorem seq_nx {s s' : Rho → SR} {ρ ρ1 : Rho} (h : s ρ = .nx ρ1) : sSeq s s' ρ = s' ρ1 := by
  show (s ρ).seq s' = _
  rw [h]
  rfl
theorem seq_rt {s s' : Rho → SR} {ρ : Rho} {x : Sl} (h : s ρ = .rt x) : sSeq s s' ρ = .rt x := by
  show (s ρ).seq s' = _
  rw [h]
  rfl
theorem if_t {g : Rho → R Bool} {s s' : Rho → SR} {ρ : Rho} (h : g ρ = .ok true) : sIf g s s' ρ = s ρ := by
  show SR.of (g ρ) _ = _
  rw [h]
  rfl
theorem if_f {g : Rho → R Bool} {s s' : Rho → SR} {ρ : Rho} (h : g ρ = .ok false) : sIf g s s' ρ = s' ρ := by
  show SR.of (g ρ) _ = _
  rw [h]
  rfl
theorem set_ok {i : Nat} {g : Rho → R PD} {ρ : Rho} {x : PD} (h : g ρ = .ok x) : sSet i g ρ = .nx (ρ.set i (some (.d x))) := by
  show SR.of (g ρ) _ = _
  rw [h]
  rfl
theorem setO_ok {i : Nat} {g : Rho → R PD} {ρ : Rho} {x : PD} (h : g ρ = .ok x) : sSetO i g ρ = .nx (ρ.set i (some (.o x))) := by
  show SR.of (g ρ) _ = _
  rw [h]
  rfl
theorem ret_ok {g : Rho → R PD} {ρ : Rho} {x : PD} (h : g ρ = .ok x) : sRet g ρ = .rt (.d x) := by
  show SR.of (g ρ) _ = _
  rw [h]
  rfl
end DL
namespace DL
open PySem L2
theorem sz {n : Nat} (h : n ≤ 16777216) : n ≤ sizeLine := by rw [sizeLine_eq]; exact h
theorem szl {n : Nat} (h : n < 16777216) : n < sizeLine := by rw [sizeLine_eq]; exact h
theorem append_ok {i : Nat} {g : Rho → R PD} {ρ : Rho} {ds : List PD} {x : PD} (h : ρ[i]? = some (some (.o (.list ds)))) (e : g ρ = .ok x) (hl : ds.length < sizeLine) : sAppend i g ρ = .nx (ρ.set i (some (.o (.list (ds ++ [x]))))) := by
  unfold sAppend ownL
  rw [h, e]
  exact if_pos hl
theorem dget_l {i : Nat} {g : Rho → R PD} {ρ : Rho} {kvs : List (PD × PD)} {a : Str} {d : PD} (h : ρ[i]? = some (some (.l (.dict kvs)))) (e : g ρ = .ok (.str a)) (hv : valD kvs (.inr a) = some d) : eDget i g ρ = .ok d := by
  unfold eDget dAt
  rw [h]
  simp only [x_bind_ok]
  rw [e]
  simp only [x_bind_ok]
  show (match valD kvs (.inr a) with | some d => R.ok d | none => .bad) = _
  rw [hv]
theorem dput_ok {i : Nat} {gk gv : Rho → R PD} {ρ : Rho} {kvs : List (PD × PD)} {a : Str} {d : PD} (h : ρ[i]? = some (some (.o (.dict kvs)))) (e : gk ρ = .ok (.str a)) (e2 : gv ρ = .ok d) (hl : kvs.length < sizeLine) : sDput i gk gv ρ = .nx (ρ.set i (some (.o (.dict (putD kvs (.inr a) d))))) := by
  unfold sDput dOwn
  rw [e2, h]
  simp only [x_of_ok]
  rw [e]
  exact if_pos hl
theorem rng_get {lo : Int} {n i : Nat} {x : PD} (h : (rngD lo n)[i]? = some x) : i < n ∧ x = .int (lo + i) := by
  unfold rngD at h
  rw [List.getElem?_map] at h
  by_cases c : i < n
  · rw [List.getElem?_range c] at h
    exact ⟨c, by injection h with h; exact h.symm⟩
  · rw [List.getElem?_eq_none (by rw [List.length_range]; omega)] at h
    cases h
theorem rng_ok (n : Nat) (h : n ≤ 1000) : rng1 [.int (n : Int)] = .ok (rngD 0 n) := by
  have h1 : (n : Int) < 2 ^ 62 := Int.lt_of_le_of_lt (Int.ofNat_le.mpr h) (by decide)
  have h0 : -(2 ^ 62) ≤ (n : Int) := Int.le_trans (by decide) (Int.natCast_nonneg _)
  have e := x_rng1 (n : Int) h0 h1
  rwa [Int.toNat_natCast] at e
theorem call3 {f : List PD → FR} {ga gb gc : Rho → R PD} {ρ : Rho} {a b c x : PD} (ha : ga ρ = .ok a) (hb : gb ρ = .ok b) (hc : gc ρ = .ok c) (h : f [a, b, c] = .rt (.d x)) : eCall 3 f (aCons ga (aCons gb (aCons gc aNil))) ρ = .ok x := by
  simp only [x_eCall, x_aCons, x_aNil, ha, hb, hc, x_bind_ok]
  show (if 3 = 3 then (f [a, b, c]).toE else R.bad) = _
  rw [if_pos rfl, h]
  rfl
theorem cb1 {f : List PD → R PD} {ga : Rho → R PD} {ρ : Rho} {a : PD} (ha : ga ρ = .ok a) : eCB f (aCons ga aNil) ρ = f [a] := by
  simp only [x_eCB, x_aCons, x_aNil, ha, x_bind_ok]
theorem op_ok {f : PD → PD → R PD} {ga gb : Rho → R PD} {ρ : Rho} {a b : PD} (ha : ga ρ = .ok a) (hb : gb ρ = .ok b) : eOp f ga gb ρ = f a b := by
  simp only [x_eOp, ha, hb, x_bind_ok]
theorem in_strs {ga gb : Rho → R PD} {ρ : Rho} {a : Str} {l : List Str} (ha : ga ρ = .ok (.str a)) (hb : gb ρ = .ok (.list (l.map PyData.str))) : eOp inD ga gb ρ = .ok (.bool (decide (a ∈ l))) := by
  rw [op_ok ha hb, x_in, x_in_strs]
  rfl
theorem bof {g : Rho → R PD} {ρ : Rho} {b : Bool} (h : g ρ = .ok (.bool b)) : bOf g ρ = .ok b := by
  rw [x_bOf, h]
  rfl
theorem call2o {f : List PD → FR} {ga gb : Rho → R PD} {ρ : Rho} {a b : PD} {l : List PD} (ha : ga ρ = .ok a) (hb : gb ρ = .ok b) (h : f [a, b] = .rt (.o (.list l))) : eCall 2 f (aCons ga (aCons gb aNil)) ρ = .ok (.list l) := by
  simp only [x_eCall, x_aCons, x_aNil, ha, hb, x_bind_ok]
  show (if 2 = 2 then (f [a, b]).toE else R.bad) = _
  rw [if_pos rfl, h]
  rfl
theorem call2 {f : List PD → FR} {ga gb : Rho → R PD} {ρ : Rho} {a b x : PD} (ha : ga ρ = .ok a) (hb : gb ρ = .ok b) (h : f [a, b] = .rt (.d x)) : eCall 2 f (aCons ga (aCons gb aNil)) ρ = .ok x := by
  simp only [x_eCall, x_aCons, x_aNil, ha, hb, x_bind_ok]
  show (if 2 = 2 then (f [a, b]).toE else R.bad) = _
  rw [if_pos rfl, h]
  rfl
theorem call1 {f : List PD → FR} {ga : Rho → R PD} {ρ : Rho} {a x : PD} (ha : ga ρ = .ok a) (h : f [a] = .rt (.d x)) : eCall 1 f (aCons ga aNil) ρ = .ok x := by
  simp only [x_eCall, x_aCons, x_aNil, ha, x_bind_ok]
  show (if 1 = 1 then (f [a]).toE else R.bad) = _
  rw [if_pos rfl, h]
  rfl
theorem cut63 (ns : List Int) (h : ns.length ≤ 63) : cutD (ns.map PyData.int) none (some 63) = ns.map PyData.int := by
  unfold cutD
  have e1 : HT.sIx (ns.map PyData.int).length 0 none = 0 := rfl
  have e2 : HT.sIx (ns.map PyData.int).length (ns.map PyData.int).length (some 63) = min 63 (ns.map PyData.int).length := HT.sIx_nat _ _ 63
  rw [e1, e2, List.length_map]
  show List.take (min 63 ns.length - 0) (List.drop 0 _) = _
  rw [List.drop_zero, List.take_of_length_le]
  rw [List.length_map]
  omega
theorem fold_list : ∀ (l : List (Array Nat)) (a : Array Nat), (l.foldl (· ++ ·) a).toList = a.toList ++ (l.map Array.toList).flatten
  | [], a => by simp
  | x :: l, a => by rw [List.foldl_cons, fold_list l]; simp
theorem mulS_sg (c : Nat) (n : Int) : cs (mulS (sg c) n) = List.replicate n.toNat c := by
  unfold mulS
  by_cases h : n < 1
  · rw [if_pos h, show n.toNat = 0 by omega]
    rfl
  · rw [if_neg h]
    show ((List.replicate n.toNat (sg c).cps).foldl (· ++ ·) #[]).toList = _
    rw [fold_list, List.map_replicate]
    show [] ++ (List.replicate n.toNat [c]).flatten = _
    rw [List.nil_append, List.flatten_replicate_singleton]
theorem sum_le : ∀ (l : List Str) (n : Nat), (∀ z ∈ l, z.length ≤ n) → (l.map (·.length)).sum ≤ n * l.length
  | [], n, _ => Nat.le_refl _
  | z :: l, n, h => by
    have := sum_le l n fun y hy => h y (List.mem_cons_of_mem _ hy)
    have := h z List.mem_cons_self
    rw [List.map_cons, List.sum_cons, List.length_cons, Nat.mul_succ]
    omega
theorem joinL_le (s : List Nat) : ∀ l : List (List Nat), (TL.joinL s l).length ≤ (l.map (·.length)).sum + l.length * s.length
  | [] => Nat.zero_le _
  | [p] => by
    show p.length ≤ _
    simp
  | p :: q :: r => by
    have ih := joinL_le s (q :: r)
    show (p ++ (s ++ TL.joinL s (q :: r))).length ≤ _
    rw [List.length_append, List.length_append, List.map_cons, List.sum_cons, List.length_cons, Nat.succ_mul]
    omega
theorem join_le (y : Str) (l : List Str) : (Txt.join y l).length ≤ (l.map (·.length)).sum + l.length * y.length := by
  have h := joinL_le (TL.tl y) (l.map TL.tl)
  have e : (Txt.join y l).length = (TL.tl (Txt.join y l)).length := TL.len_tl _
  rw [TL.join_eq, TL.tl_join] at e
  rw [TL.join_eq, e]
  rw [List.length_map, List.map_map] at h
  have e2 : (l.map ((fun x : List Nat => x.length) ∘ TL.tl)) = l.map (·.length) := List.map_congr_left fun z _ => (TL.len_tl z).symm
  have e2' : (l.map fun z : Str => (TL.tl z).length) = l.map (·.length) := List.map_congr_left fun z _ => (TL.len_tl z).symm
  rw [e2] at h
  rw [← TL.len_tl] at h
  exact h
end DL
namespace DL
open PySem L2
section
variable {α β : Type} (ρ : Rho) (g ga gb gc : Rho → R PD) (gm : Rho → R Tv) (f f' : PD → PD → R PD) (gr : Rho → R (List PD)) (gt : Rho → R (List Tv)) (s s' : Rho → SR) (i : Nat) (is vs : List Nat)
def killR (is : List Nat) : SR → SR
  | .nx ρ1 => .nx (is.foldl (fun ρ i => ρ.set i none) ρ1)
  | .ct ρ1 => .ct (is.foldl (fun ρ i => ρ.set i none) ρ1)
  | .bk ρ1 => .bk (is.foldl (fun ρ i => ρ.set i none) ρ1)
  | x => x
@[simp] theorem x_killS : killS is s ρ = killR is (s ρ) := by unfold killS killR; cases s ρ <;> rfl
@[simp] theorem x_killR_nx : killR is (.nx ρ) = .nx (is.foldl (fun ρ i => ρ.set i none) ρ) := rfl
@[simp] theorem x_killR_ct : killR is (.ct ρ) = .ct (is.foldl (fun ρ i => ρ.set i none) ρ) := rfl
@[simp] theorem x_killR_rt (x : Sl) : killR is (.rt x) = .rt x := rfl
@[simp] theorem x_killR_exc (x : Ec) : killR is (.exc x) = .exc x := rfl
@[simp] theorem x_preK : preK is s ρ = s (is.foldl (fun ρ i => ρ.set i none) ρ) := rfl
@[simp] theorem x_eImm : eImm g ρ = (g ρ).bind immO := rfl
@[simp] theorem x_immO_i (j : Int) : immO (.int j) = .ok (.int j) := rfl
@[simp] theorem x_immO_b (j : Bool) : immO (.bool j) = .ok (.bool j) := rfl
@[simp] theorem x_immO_s (j : Str) : immO (.str j) = .ok (.str j) := rfl
@[simp] theorem x_immO_n : immO .none = .ok .none := rfl
@[simp] theorem x_mFr : mFr g ρ = (g ρ).bind fun d => .ok (.fr d) := rfl
@[simp] theorem x_mOwn : mOwn g ρ = (g ρ).bind fun d => .ok (.own d) := rfl
@[simp] theorem x_maNil : maNil ρ = .ok [] := rfl
@[simp] theorem x_maCons : maCons gm gt ρ = (gm ρ).bind fun a => (gt ρ).bind fun l => .ok (a :: l) := rfl
@[simp] theorem x_mTup : mTup gt ρ = (gt ρ).bind fun l => if l.length ≤ sizeLine then .ok (.tup l) else .bad := rfl
@[simp] theorem x_mCall (n : Nat) (f : List PD → FR) : mCall n f gr ρ = (gr ρ).bind fun ds => if ds.length = n then (f ds).toM else .bad := rfl
@[simp] theorem x_eCallH (n : Nat) (f : List PD → FR) : eCallH n f gr ρ = (gr ρ).bind fun ds => if ds.length = n then (f ds).toE.bind immO else .bad := rfl
@[simp] theorem x_toM_d (x : PD) : (FR.rt (.d x)).toM = .ok (.fr x) := rfl
@[simp] theorem x_toM_t (x : Tv) : (FR.rt (.t x)).toM = .ok x := rfl
@[simp] theorem x_toM_x (c : Ec) : (FR.exc c).toM = .exc c := rfl
@[simp] theorem x_toE_t (x : Tv) : (FR.rt (.t x)).toE = x.toD := rfl
@[simp] theorem x_toD_f (x : PD) : (Tv.fr x).toD = .ok x := by unfold Tv.toD; rfl
@[simp] theorem x_toD_l (l : List PD) : (Tv.own (.list l)).toD = .ok (.list l) := by unfold Tv.toD; rfl
@[simp] theorem x_toD_t (ts : List Tv) : (Tv.tup ts).toD = (Tv.toDs ts).bind fun l => .ok (.tuple l) := by rw [Tv.toD]
@[simp] theorem x_toDs_n : Tv.toDs [] = .ok [] := by rw [Tv.toDs]
@[simp] theorem x_toDs_c (t : Tv) (ts : List Tv) : Tv.toDs (t :: ts) = t.toD.bind fun d => (Tv.toDs ts).bind fun l => .ok (d :: l) := by rw [Tv.toDs]
@[simp] theorem x_sRetM : sRetM gm ρ = SR.of (gm ρ) fun x => .rt (.t x) := rfl
@[simp] theorem x_sSetM : sSetM i vs gm ρ = SR.of (gm ρ) fun x => .nx ((killD ρ vs).set i (some (slOf x))) := rfl
@[simp] theorem x_killD_n : killD ρ [] = ρ := rfl
@[simp] theorem x_killD_c : killD ρ (i :: is) = killD (ρ.set i none) is := rfl
@[simp] theorem x_slOf_f (d : PD) : slOf (.fr d) = .d d := rfl
@[simp] theorem x_slOf_o (d : PD) : slOf (.own d) = .t (.own d) := rfl
@[simp] theorem x_slOf_t (d : List Tv) : slOf (.tup d) = .t (.tup d) := rfl
@[simp] theorem x_slOf_k (d : List (List Key × PD)) : slOf (.dT d) = .t (.dT d) := rfl
@[simp] theorem x_sUnpM : sUnpM is vs gm ρ = SR.of (gm ρ) fun x => unpM is (killD ρ (vs ++ is)) x := rfl
@[simp] theorem x_unpM (ts : List Tv) : unpM is ρ (.tup ts) = SR.ofT (putsM is ρ ts) := rfl
@[simp] theorem x_putsM_n : putsM [] ρ [] = .ok ρ := rfl
@[simp] theorem x_putsM_c (x : Tv) (xs : List Tv) : putsM (i :: is) ρ (x :: xs) = putsM is (ρ.set i (some (slOf x))) xs := rfl
@[simp] theorem x_mDnewT : mDnewT ρ = .ok (.dT []) := rfl
@[simp] theorem x_oDnew : oDnew ρ = .ok (.dict []) := rfl
@[simp] theorem x_iRvR1 : iRvR1 ga ρ = (ga ρ).bind fun a => match a with | .int j => if small62 j = true then .ok (rngD 0 j.toNat).reverse else .bad | _ => .bad := rfl
@[simp] theorem x_sortIt : oSortIt i ρ = (match ρ[i]? with
  | some (some (.t (.own (.dict kvs)))) => (match pairKs kvs with
    | some l => if likeAll (l.map pr2) = true then .ok (.list ((sortK (l.map pr2)).map keyP)) else .bad
    | none => .bad)
  | _ => .bad) := rfl
@[simp] theorem x_sortT : oSortT i ρ = (tAt ρ i).bind fun kvs => if likeAll (kvs.map (·.1)) = true then .ok (.list ((sortK (kvs.map (·.1))).map keyP)) else .bad := rfl
@[simp] theorem x_eDgetT : eDgetT i g ρ = (tAt ρ i).bind fun kvs => (g ρ).bind fun y => getT kvs y := rfl
@[simp] theorem x_sDputT : sDputT i ga gb ρ = SR.of (gb ρ) fun d => SR.of (tAt ρ i) fun kvs => SR.of (ga ρ) fun y => putTS ρ i kvs y d := rfl
@[simp] theorem x_sExtend : sExtend i g ρ = ownL ρ i fun ds => SR.of (g ρ) fun x => extS ρ i ds x := rfl
@[simp] theorem x_sInsertD : sInsertD i ga g ρ = ownL ρ i fun ds => SR.of (ga ρ) fun n => SR.of (g ρ) fun y => insS ρ i ds y n := rfl
@[simp] theorem x_sAppend : sAppend i g ρ = ownL ρ i fun ds => SR.of (g ρ) fun x => if ds.length < sizeLine then .nx (ρ.set i (some (.o (.list (ds ++ [x]))))) else .bad := rfl
@[simp] theorem x_eIndex : eIndex g ga ρ = (g ρ).bind fun a => listOf a ((ga ρ).bind fun b => idxD a b) := rfl
@[simp] theorem x_listOf (l : List PD) (k : R PD) : listOf (.list l) k = k := rfl
@[simp] theorem x_oListRev (l : List PD) (h : g ρ = .ok (.list l)) : oListRev g ρ = .ok (.list l.reverse) := by unfold oListRev; rw [h]; rfl
@[simp] theorem x_repL (l : List PD) (k : Int) : repL (.list l) (.int k) = if -(2 ^ 63) ≤ k ∧ k < 2 ^ 63 ∧ l.length * k.toNat ≤ sizeLine then .ok (.list (List.replicate k.toNat l).flatten) else .bad := rfl
@[simp] theorem x_rgT (a b : Int) : rgT (.int a) (.int b) = if rgOk a b = true then .ok (.tuple (rngD a (b - a).toNat)) else .bad := rfl
@[simp] theorem x_callT (n : Nat) (f : List Tv → FR) (k : Tv → SR) : callT n f gt k ρ = SR.of (gt ρ) fun ts => if ts.length = n then (match f ts with
  | .rt (.d x) => k (.fr x)
  | .rt (.t x) => k x
  | .rt (.l _) => .bad
  | .rt (.b _) => .bad
  | .exc c => .exc c
  | .bad => .bad) else .bad := rfl
@[simp] theorem x_sCallT (n : Nat) (f : List Tv → FR) : sCallT i vs n f gt ρ = callT n f gt (fun x => .nx ((killD ρ vs).set i (some (slOf x)))) ρ := rfl
@[simp] theorem x_sRetT (n : Nat) (f : List Tv → FR) : sRetT n f gt ρ = callT n f gt (fun x => .rt (.t x)) ρ := rfl
@[simp] theorem x_sDput : sDput i ga gb ρ = SR.of (gb ρ) fun d => SR.of (dOwn ρ i) fun kvs => SR.of (ga ρ) fun y => putS ρ i kvs y d := rfl
@[simp] theorem x_eDget : eDget i g ρ = (dAt ρ i).bind fun kvs => (g ρ).bind fun y => getD kvs y := rfl
@[simp] theorem x_edin : edin i g ρ = (g ρ).bind fun y => (dAt ρ i).bind fun kvs => (hasD kvs y).bind fun b => .ok (.bool b) := rfl
@[simp] theorem x_ednotin : ednotin i g ρ = (g ρ).bind fun y => (dAt ρ i).bind fun kvs => (hasD kvs y).bind fun b => .ok (.bool !b) := rfl
end
theorem s0 : (0 : Nat) ≤ sizeLine := sz (by decide)
theorem s1 : (1 : Nat) ≤ sizeLine := sz (by decide)
theorem s2 : (2 : Nat) ≤ sizeLine := sz (by decide)
theorem s3 : (3 : Nat) ≤ sizeLine := sz (by decide)
theorem s4 : (4 : Nat) ≤ sizeLine := sz (by decide)
theorem s5 : (5 : Nat) ≤ sizeLine := sz (by decide)
theorem s6 : (6 : Nat) ≤ sizeLine := sz (by decide)
theorem s7 : (7 : Nat) ≤ sizeLine := sz (by decide)
theorem s8 : (8 : Nat) ≤ sizeLine := sz (by decide)
theorem s9 : (9 : Nat) ≤ sizeLine := sz (by decide)
def HSm (s : Rho → SR) (ρ : Rho) (N : Rho → Prop) (Rt : Sl → Prop) (Ct : Rho → Prop) : Prop := match s ρ with
  | .nx ρ' => N ρ'
  | .rt x => Rt x
  | .ct ρ' => Ct ρ'
  | _ => False
structure HS (s : Rho → SR) (ρ : Rho) (N : Rho → Prop) (Rt : Sl → Prop) (Ct : Rho → Prop) : Prop where
  out : HSm s ρ N Rt Ct
section
variable {ρ : Rho} {N : Rho → Prop} {Rt : Sl → Prop} {Ct : Rho → Prop} {s s' : Rho → SR}
theorem hs_mono {N' : Rho → Prop} {Rt' : Sl → Prop} {Ct' : Rho → Prop} (h : HS s ρ N Rt Ct) (h1 : ∀ ρ, N ρ → N' ρ) (h2 : ∀ x, Rt x → Rt' x) (h3 : ∀ ρ, Ct ρ → Ct' ρ) : HS s ρ N' Rt' Ct' := by
  refine ⟨?_⟩
  replace h := h.out
  unfold HSm at h ⊢
  cases e : s ρ with
  | nx ρ' => rw [e] at h; exact h1 _ h
  | rt x => rw [e] at h; exact h2 _ h
  | ct ρ' => rw [e] at h; exact h3 _ h
  | bk ρ' => rw [e] at h; exact h
  | exc c => rw [e] at h; exact h
  | bad => rw [e] at h; exact h
theorem hs_seq (h : HS s ρ (fun ρ' => HS s' ρ' N Rt Ct) Rt Ct) : HS (sSeq s s') ρ N Rt Ct := by
  refine ⟨?_⟩
  replace h := h.out
  unfold HSm at h ⊢
  rw [x_sSeq]
  cases e : s ρ with
  | nx ρ' => rw [e] at h; exact HS.out h
  | rt x => rw [e] at h; exact h
  | ct ρ' => rw [e] at h; exact h
  | bk ρ' => rw [e] at h; exact h.elim
  | exc c => rw [e] at h; exact h.elim
  | bad => rw [e] at h; exact h.elim
theorem hs_cut {P : Rho → Prop} (h : HS s ρ P Rt Ct) (k : ∀ ρ', P ρ' → HS s' ρ' N Rt Ct) : HS (sSeq s s') ρ N Rt Ct := hs_seq (hs_mono h k (fun _ h => h) fun _ h => h)
theorem hs_nx {ρ' : Rho} (e : s ρ = .nx ρ') (h : N ρ') : HS s ρ N Rt Ct := ⟨by unfold HSm; rw [e]; exact h⟩
theorem hs_rt {x : Sl} (e : s ρ = .rt x) (h : Rt x) : HS s ρ N Rt Ct := ⟨by unfold HSm; rw [e]; exact h⟩
theorem hs_next (h : N ρ) : HS sNext ρ N Rt Ct := ⟨h⟩
theorem hs_set {i : Nat} {g : Rho → R PD} {x : PD} (e : g ρ = .ok x) (h : N (ρ.set i (some (.d x)))) : HS (sSet i g) ρ N Rt Ct := hs_nx (set_ok e) h
theorem hs_setO {i : Nat} {g : Rho → R PD} {x : PD} (e : g ρ = .ok x) (h : N (ρ.set i (some (.o x)))) : HS (sSetO i g) ρ N Rt Ct := hs_nx (setO_ok e) h
theorem hs_setM {i : Nat} {vs : List Nat} {g : Rho → R Tv} {x : Tv} (e : g ρ = .ok x) (h : N ((killD ρ vs).set i (some (slOf x)))) : HS (sSetM i vs g) ρ N Rt Ct := hs_nx (by rw [x_sSetM, e]; rfl) h
theorem hs_ret {g : Rho → R PD} {x : PD} (e : g ρ = .ok x) (h : Rt (.d x)) : HS (sRet g) ρ N Rt Ct := hs_rt (ret_ok e) h
theorem hs_retV {i : Nat} {x : Sl} (e : ρ[i]? = some (some x)) (h : Rt x) : HS (sRetV i) ρ N Rt Ct := hs_rt (by unfold sRetV; rw [e]) h
theorem hs_if {g : Rho → R Bool} {c : Bool} (e : g ρ = .ok c) (h1 : c = true → HS s ρ N Rt Ct) (h2 : c = false → HS s' ρ N Rt Ct) : HS (sIf g s s') ρ N Rt Ct := by
  cases c with
  | true => have := (h1 rfl).out; refine ⟨?_⟩; unfold HSm at this ⊢; rw [if_t e]; exact this
  | false => have := (h2 rfl).out; refine ⟨?_⟩; unfold HSm at this ⊢; rw [if_f e]; exact this
theorem hs_ifX {g : Rho → R Bool} (e : ∃ c, g ρ = .ok c) (h1 : HS s ρ N Rt Ct) (h2 : HS s' ρ N Rt Ct) : HS (sIf g s s') ρ N Rt Ct := by
  obtain ⟨c, e⟩ := e
  exact hs_if e (fun _ => h1) fun _ => h2
theorem xCmpB {p : Int → Int → Bool} {ga gb : Rho → R PD} {i j : Int} (c : Bool) (ha : ga ρ = .ok (.int i)) (hb : gb ρ = .ok (.int j)) (h : p i j = c) : bOf (eOp (cmpD p) ga gb) ρ = .ok c := by rw [x_bOf, op_ok ha hb, x_cmp_i, h]; rfl
theorem xEqB {ga gb : Rho → R PD} {i j : Int} (c : Bool) (ha : ga ρ = .ok (.int i)) (hb : gb ρ = .ok (.int j)) (h : decide (i = j) = c) : bOf (eOp eqD ga gb) ρ = .ok c := by rw [x_bOf, op_ok ha hb, x_eq, x_eqB_i, h]; rfl
theorem xEqI {ga gb : Rho → R PD} {i j : Int} (ha : ga ρ = .ok (.int i)) (hb : gb ρ = .ok (.int j)) : ∃ c, bOf (eOp eqD ga gb) ρ = .ok c := ⟨decide (i = j), by rw [x_bOf, op_ok ha hb, x_eq, x_eqB_i]; rfl⟩
theorem frz_o {ρ : Rho} {i : Nat} {l : List PD} (h : ρ[i]? = some (some (.t (.own (.list l))))) : frz1 i ρ = ρ.set i (some (.d (.list l))) := by
  unfold frz1
  rw [h]
  simp only [x_toD_l]
theorem hs_frz {is : List Nat} (h : HS s (is.foldl (fun ρ i => frz1 i ρ) ρ) N Rt Ct) : HS (sFrz is s) ρ N Rt Ct := ⟨h.out⟩
theorem hs_pre {is : List Nat} (h : HS s (is.foldl (fun ρ i => ρ.set i none) ρ) N Rt Ct) : HS (preK is s) ρ N Rt Ct := ⟨h.out⟩
theorem hs_app {i : Nat} {g : Rho → R PD} {ds : List PD} {x : PD} (h : ρ[i]? = some (some (.t (.own (.list ds))))) (e : g ρ = .ok x) (hl : ds.length < sizeLine) (k : N (ρ.set i (some (.o (.list (ds ++ [x])))))) : HS (sAppend i g) ρ N Rt Ct :=
  hs_nx (append_ok h e hl) k
theorem hs_dput {i : Nat} {gk gv : Rho → R PD} {kvs : List (PD × PD)} {a : Str} {d : PD} (h : ρ[i]? = some (some (.o (.dict kvs)))) (e : gk ρ = .ok (.str a)) (e2 : gv ρ = .ok d) (hl : kvs.length < sizeLine) (n : N (ρ.set i (some (.o (.dict (putD kvs (.inr a) d)))))) : HS (sDput i gk gv) ρ N Rt Ct := hs_nx (dput_ok h e e2 hl) n
theorem hs_for {gi : Rho → R (List PD)} {a : Rho → PD → R Rho} {is : List Nat} {xs : List PD} (e : gi ρ = .ok xs) (I : Nat → Rho → Prop) (h0 : I 0 ρ)
    (hs : ∀ (i : Nat) (x : PD) (ρ : Rho), xs[i]? = some x → I i ρ → ∃ ρ1, a ρ x = .ok ρ1 ∧ HS s ρ1 (fun ρ2 => I (i + 1) (is.foldl (fun ρ i => ρ.set i none) ρ2)) Rt (fun ρ2 => I (i + 1) (is.foldl (fun ρ i => ρ.set i none) ρ2)))
    (he : ∀ ρ, I xs.length ρ → N ρ) : HS (sFor gi a (killS is s)) ρ N Rt Ct := by
  refine ⟨?_⟩
  unfold HSm
  rw [x_sFor, e, x_of_ok]
  refine forD_by (P := fun r => match r with | .nx ρ' => N ρ' | .rt x => Rt x | .ct ρ' => Ct ρ' | _ => False) I h0 (fun i x ρ hx hI => ?_) he
  obtain ⟨ρ1, e1, h1⟩ := hs i x ρ hx hI
  refine ⟨ρ1, e1, ?_⟩
  rw [x_killS]
  replace h1 := h1.out
  unfold HSm at h1
  cases e2 : s ρ1 with
  | nx ρ2 => rw [e2] at h1; exact h1
  | rt x => rw [e2] at h1; exact h1
  | ct ρ2 => rw [e2] at h1; exact h1
  | bk ρ2 => rw [e2] at h1; exact h1.elim
  | exc c => rw [e2] at h1; exact h1.elim
  | bad => rw [e2] at h1; exact h1.elim
theorem hs_forL {γ : Type} {gi : Rho → R (List PD)} {a : Rho → PD → R Rho} {is : List Nat} (f : γ → PD) (xs : List γ) (e : gi ρ = .ok (xs.map f)) (I : Nat → Rho → Prop) (h0 : I 0 ρ)
    (hs : ∀ (i : Nat) (p : γ) (ρ : Rho), xs[i]? = some p → I i ρ → ∃ ρ1, a ρ (f p) = .ok ρ1 ∧ HS s ρ1 (fun ρ2 => I (i + 1) (is.foldl (fun ρ i => ρ.set i none) ρ2)) Rt (fun ρ2 => I (i + 1) (is.foldl (fun ρ i => ρ.set i none) ρ2)))
    (he : ∀ ρ, I xs.length ρ → N ρ) : HS (sFor gi a (killS is s)) ρ N Rt Ct :=
  hs_for e I h0 (fun i x ρ hx hI => by
    rw [List.getElem?_map] at hx
    cases e2 : xs[i]? with
    | none => rw [e2] at hx; cases hx
    | some p =>
      rw [e2] at hx
      injection hx with hx
      rw [← hx]
      exact hs i p ρ e2 hI) (fun ρ h => he ρ (by rw [List.length_map] at h; exact h))
theorem hs_rng {gi : Rho → R (List PD)} {a : Rho → PD → R Rho} {is : List Nat} (n : Nat) (e : gi ρ = .ok ((List.range n).map fun i => .int (0 + ((i : Nat) : Int)))) (I : Nat → Rho → Prop) (h0 : I 0 ρ)
    (hs : ∀ (i : Nat) (ρ : Rho), i < n → I i ρ → ∃ ρ1, a ρ (.int (i : Nat)) = .ok ρ1 ∧ HS s ρ1 (fun ρ2 => I (i + 1) (is.foldl (fun ρ i => ρ.set i none) ρ2)) Rt (fun ρ2 => I (i + 1) (is.foldl (fun ρ i => ρ.set i none) ρ2)))
    (he : ∀ ρ, I n ρ → N ρ) : HS (sFor gi a (killS is s)) ρ N Rt Ct :=
  hs_forL (fun i : Nat => PyData.int (0 + ((i : Nat) : Int))) (List.range n) e I h0 (fun i p ρ hx hI => by
    obtain ⟨h1, h2⟩ := List.getElem?_eq_some_iff.mp hx
    rw [List.length_range] at h1
    rw [List.getElem_range] at h2
    rw [← h2, Int.zero_add]
    exact hs i ρ h1 hI) (fun ρ h => he ρ (by rw [List.length_range] at h; exact h))
theorem rng_c {g : Rho → R PD} {ρ : Rho} {n : Nat} (h : g ρ = .ok (.int (n : Nat))) (hn : n ≤ 1000) : iRng1D (aCons g aNil) ρ = .ok ((List.range n).map fun i => .int (0 + ((i : Nat) : Int))) := by
  rw [x_iRng1, x_aCons, h, x_bind_ok, x_aNil, x_bind_ok, x_bind_ok, rng_ok n hn]
  unfold rngD
  exact Eq.refl _
theorem hs_run {n : Nat} {ds : List PD} {Q : Sl → Prop} (h : HS s (startD n ds) (fun _ => Q (.d .none)) Q (fun _ => False)) : ∃ x, runD n s ds = .rt x ∧ Q x := by
  replace h := h.out
  unfold HSm at h
  rw [x_run]
  cases e : s (startD n ds) with
  | nx ρ' => rw [e] at h; exact ⟨_, rfl, h⟩
  | rt x => rw [e] at h; exact ⟨x, rfl, h⟩
  | ct ρ' => rw [e] at h; exact h.elim
  | bk ρ' => rw [e] at h; exact h.elim
  | exc c => rw [e] at h; exact h.elim
  | bad => rw [e] at h; exact h.elim
end
theorem lc_eq {γ : Type} {gi : Rho → R (List PD)} {a : Rho → PD → R Rho} {ge : Rho → R PD} {vs : List Nat} {ρ : Rho} {xs : List γ} (f g : γ → PD) (e : gi ρ = .ok (xs.map f)) (hl : xs.length ≤ sizeLine)
    (h : ∀ x ∈ xs, ∃ ρ1, a (wipeD ρ vs) (f x) = .ok ρ1 ∧ ge ρ1 = .ok (g x)) : oLc gi a gYes ge vs ρ = .ok (.list (xs.map g)) := by
  have go : ∀ xs : List γ, (∀ x ∈ xs, ∃ ρ1, a (wipeD ρ vs) (f x) = .ok ρ1 ∧ ge ρ1 = .ok (g x)) → lcL (lcE a gYes ge (wipeD ρ vs)) (xs.map f) = .ok (xs.map g) := by
    intro xs
    induction xs with
    | nil => exact fun _ => rfl
    | cons x xs ih =>
      intro h
      obtain ⟨ρ1, e1, e2⟩ := h x List.mem_cons_self
      rw [List.map_cons, List.map_cons]
      unfold lcL lcE
      rw [e1, x_bind_ok, x_gYes, x_bind_ok, if_pos rfl, e2, x_bind_ok, x_bind_ok]
      show ((lcL (lcE a gYes ge (wipeD ρ vs)) (xs.map f)).bind fun l => R.ok ((some (g x)).toList ++ l)) = _
      rw [ih fun y hy => h y (List.mem_cons_of_mem _ hy)]
      rfl
  rw [x_oLc, e, x_bind_ok, go xs h]
  show (R.ok (xs.map g)).bind _ = _
  rw [x_bind_ok, if_pos (by rw [List.length_map]; exact hl)]
theorem ix_list {γ : Type} (l : List γ) (f : γ → PD) (i : Int) (h0 : 0 ≤ i) (h1 : i < l.length) : ∃ (x : γ) (h : i.toNat < l.length), x = l[i.toNat] ∧ ixD (.list (l.map f)) (.int i) = .ok (f x) := by
  have h : i.toNat < l.length := by omega
  refine ⟨l[i.toNat], h, rfl, x_ix_l _ _ _ h0 ?_⟩
  rw [List.getElem?_map, List.getElem?_eq_getElem h]
  rfl
end DL
namespace DL
open PySem L2
def okS (z : Str) : Prop := PyData.strOk z = true
structure Sh (n : Nat) (d : PD) : Prop where
  c : d.canLay0 = true
  h : d.depth ≤ n
section
variable {n m : Nat} {d : PD} {l : List PD}
theorem Sh.up (a : Sh n d) (k : n ≤ m) : Sh m d := ⟨a.c, Nat.le_trans a.h k⟩
theorem sh_i {i : Int} : Sh n (.int i) := ⟨by simp [PyData.canLay0], by simp [PyData.depth]⟩
theorem sh_s {z : Str} (h : okS z) : Sh n (.str z) := ⟨by simp only [PyData.canLay0]; exact h, by simp [PyData.depth]⟩
theorem sh_all : ∀ {l : List PD}, (∀ d ∈ l, Sh n d) → PyData.canLayAll0 l = true ∧ PyData.depthAll l ≤ n
  | [], _ => ⟨by simp [PyData.canLayAll0], by simp [PyData.depthAll]⟩
  | d :: l, h => by
    obtain ⟨a, b⟩ := sh_all fun e he => h e (List.mem_cons_of_mem _ he)
    have := h d List.mem_cons_self
    exact ⟨by simp only [PyData.canLayAll0, this.c, a, Bool.and_self], by simp only [PyData.depthAll]; exact Nat.max_le.mpr ⟨this.h, b⟩⟩
theorem sh_l (h : ∀ d ∈ l, Sh n d) : Sh (n + 1) (.list l) := ⟨by simp only [PyData.canLay0]; exact (sh_all h).1, by simp only [PyData.depth]; have := (sh_all h).2; omega⟩
theorem sh_t (h : ∀ d ∈ l, Sh n d) : Sh (n + 1) (.tuple l) := ⟨by simp only [PyData.canLay0]; exact (sh_all h).1, by simp only [PyData.depth]; have := (sh_all h).2; omega⟩
theorem sh_m {γ : Type} {f : γ → PD} {l : List γ} (h : ∀ x ∈ l, Sh n (f x)) : ∀ d ∈ l.map f, Sh n d := fun d hd => by
  obtain ⟨x, hx, rfl⟩ := List.mem_map.mp hd
  exact h x hx
theorem sh_0 : ∀ d ∈ ([] : List PD), Sh n d := fun d h => by cases h
theorem sh_c {x : PD} (a : Sh n x) (b : ∀ d ∈ l, Sh n d) : ∀ d ∈ x :: l, Sh n d := fun d h => by
  rcases List.mem_cons.mp h with e | h
  · rw [e]; exact a
  · exact b d h
theorem Sh.ok (a : Sh n d) (k : n ≤ 64) : SeqAt.shaped d = true := by
  unfold SeqAt.shaped
  rw [a.c, Bool.true_and]
  exact decide_eq_true (Nat.le_trans a.h k)
end
mutual
theorem eqv_refl : ∀ d : PD, d.canLay0 = true → PyData.eqv d d = true
  | .none, _ => by simp only [PyData.eqv]
  | .bool b, _ => by simp only [PyData.eqv, beq_self_eq_true]
  | .int i, _ => by simp only [PyData.eqv, beq_self_eq_true]
  | .str x, _ => by simp only [PyData.eqv, beq_self_eq_true]
  | .list xs, h => by
    simp only [PyData.eqv]
    exact eqvAll_refl xs (by simpa [PyData.canLay0] using h)
  | .tuple xs, h => by
    simp only [PyData.eqv]
    exact eqvAll_refl xs (by simpa [PyData.canLay0] using h)
  | .dict _, h => by simp [PyData.canLay0] at h
theorem eqvAll_refl : ∀ xs : List PD, PyData.canLayAll0 xs = true → PyData.eqvAll xs xs = true
  | [], _ => by simp only [PyData.eqvAll]
  | x :: xs, h => by
    have h' : x.canLay0 = true ∧ PyData.canLayAll0 xs = true := by simpa [PyData.canLayAll0] using h
    simp only [PyData.eqvAll, eqv_refl x h'.1, eqvAll_refl xs h'.2, Bool.and_self]
end
theorem eqB_t (l m : List PD) : eqB (.tuple l) (.tuple m) = if SeqAt.shaped (.tuple l) = true ∧ SeqAt.shaped (.tuple m) = true then .ok (PyData.eqv (.tuple l) (.tuple m)) else .bad := rfl
theorem eqB_tt {n : Nat} {l m : List PD} (a : Sh n (.tuple l)) (b : Sh n (.tuple m)) (k : n ≤ 64) : eqB (.tuple l) (.tuple m) = .ok (PyData.eqvAll l m) := by
  rw [eqB_t, if_pos ⟨a.ok k, b.ok k⟩]
  simp only [PyData.eqv]
theorem cut_a {γ : Type} (l : List γ) (f : γ → PD) (i : Int) (h : 0 ≤ i) : cutD (l.map f) none (some i) = (l.take i.toNat).map f := by
  unfold cutD
  rw [show HT.sIx (l.map f).length 0 none = 0 from rfl, List.drop_zero, Nat.sub_zero, show HT.sIx (l.map f).length (l.map f).length (some i) = min i.toNat (l.map f).length from if_neg (by omega), List.map_take, List.length_map]
  by_cases c : i.toNat ≤ l.length
  · rw [Nat.min_eq_left c]
  · rw [Nat.min_eq_right (by omega), List.take_of_length_le (by rw [List.length_map]; omega), List.take_of_length_le (by rw [List.length_map]; omega)]
theorem cut_b {γ : Type} (l : List γ) (f : γ → PD) (i : Int) (h : 0 ≤ i) : cutD (l.map f) (some i) none = (l.drop i.toNat).map f := by
  unfold cutD
  rw [show HT.sIx (l.map f).length (l.map f).length none = (l.map f).length from rfl, show HT.sIx (l.map f).length 0 (some i) = min i.toNat (l.map f).length from if_neg (by omega), List.map_drop, List.length_map]
  by_cases c : i.toNat ≤ l.length
  · rw [Nat.min_eq_left c, List.take_of_length_le (by rw [List.length_drop, List.length_map]; omega)]
  · rw [Nat.min_eq_right (by omega), Nat.sub_self, List.take_zero, List.drop_of_length_le (by rw [List.length_map]; omega)]
theorem it_l {g : Rho → R PD} {ρ : Rho} {l : List PD} (h : g ρ = .ok (.list l)) : iItems g ρ = .ok l := by
  rw [x_iItems, h]
  rfl
theorem it_t {g : Rho → R PD} {ρ : Rho} {l : List PD} (h : g ρ = .ok (.tuple l)) : iItems g ρ = .ok l := by
  rw [x_iItems, h]
  rfl
theorem fz_l {g : Rho → R PD} {ρ : Rho} {l : List PD} (h : g ρ = .ok (.list l)) : eFz g ρ = .ok (.list l) := by
  rw [x_eFz, h]
  rfl
section
variable {γ : Type} {f : γ → PD} {ρ : Rho} {g ga gb gc gk : Rho → R PD} {l m n : List γ} {k : Int} {a b c : PD}
theorem add2 (ha : ga ρ = .ok (.list (l.map f))) (hb : gb ρ = .ok (.list (m.map f))) (h : l.length + m.length ≤ 1000) : eOp addD ga gb ρ = .ok (.list ((l ++ m).map f)) := by
  rw [op_ok ha hb, x_add_l, if_pos (sz (by rw [List.length_map, List.length_map]; omega)), List.map_append]
theorem sl_a (ha : g ρ = .ok (.list (l.map f))) (hk : gk ρ = .ok (.int k)) (k0 : 0 ≤ k) : eSl g pNo (pSo gk) ρ = .ok (.list ((l.take k.toNat).map f)) := by
  simp only [x_eSl, x_pNo, x_pSo, ha, hk, x_bind_ok, x_asI, x_sl_l, cut_a _ _ _ k0]
theorem sl_b (ha : g ρ = .ok (.list (l.map f))) (hk : gk ρ = .ok (.int k)) (k0 : 0 ≤ k) : eSl g (pSo gk) pNo ρ = .ok (.list ((l.drop k.toNat).map f)) := by
  simp only [x_eSl, x_pNo, x_pSo, ha, hk, x_bind_ok, x_asI, x_sl_l, cut_b _ _ _ k0]
theorem tup2 (ha : ga ρ = .ok a) (hb : gb ρ = .ok b) : eTup (aCons ga (aCons gb aNil)) ρ = .ok (.tuple [a, b]) := by
  simp only [x_eTup, x_aCons, x_aNil, ha, hb, x_bind_ok, List.length_cons, List.length_nil, Nat.reduceAdd]
  exact if_pos s2
theorem tup3 (ha : ga ρ = .ok a) (hb : gb ρ = .ok b) (hc : gc ρ = .ok c) : eTup (aCons ga (aCons gb (aCons gc aNil))) ρ = .ok (.tuple [a, b, c]) := by
  simp only [x_eTup, x_aCons, x_aNil, ha, hb, hc, x_bind_ok, List.length_cons, List.length_nil, Nat.reduceAdd]
  exact if_pos s3
theorem xOrB {a b : Rho → R Bool} (x y : Bool) (h1 : a ρ = .ok x) (h2 : b ρ = .ok y) : bOr a b ρ = .ok (x || y) := by
  rw [x_bOr, h1, x_bind_ok, h2]
  cases x <;> rfl
theorem hs_asg {N : Rho → Prop} {Rt : Sl → Prop} {Ct : Rho → Prop} {as : Rho → PD → R Rho} {ρ' : Rho} (e : g ρ = .ok a) (e2 : as ρ a = .ok ρ') (h : N ρ') : HS (sAsg g as) ρ N Rt Ct := hs_nx (by rw [x_sAsg, e, x_of_ok, e2, x_ofT]) h
end
section
variable {ρ : Rho} {N : Rho → Prop} {Rt : Sl → Prop} {Ct : Rho → Prop} {s : Rho → SR}
theorem xAndB {a b : Rho → R Bool} (x y : Bool) (h1 : a ρ = .ok x) (h2 : x = true → b ρ = .ok y) : bAnd a b ρ = .ok (x && y) := by
  rw [x_bAnd, h1, x_bind_ok]
  cases x with
  | true => exact h2 rfl
  | false => rfl
theorem xNotB {a : Rho → R Bool} (x : Bool) (h1 : a ρ = .ok x) : bNot a ρ = .ok (!x) := by
  rw [x_bNot, h1, x_bind_ok]
end
section
variable {ρ : Rho} {N : Rho → Prop} {Rt : Sl → Prop} {Ct : Rho → Prop}
theorem callH1 {f : List PD → FR} {ga : Rho → R PD} {a : PD} {x : Bool} (ha : ga ρ = .ok a) (h : f [a] = .rt (.d (.bool x))) : eCallH 1 f (aCons ga aNil) ρ = .ok (.bool x) := by
  simp only [x_eCallH, x_aCons, x_aNil, ha, x_bind_ok]
  show (if 1 = 1 then (f [a]).toE.bind immO else R.bad) = _
  rw [if_pos rfl, h]
  rfl
end
theorem run_eq {n : Nat} {s : Rho → SR} {ds : List PD} {y : Sl} (h : HS s (startD n ds) (fun _ => Sl.d .none = y) (fun x => x = y) (fun _ => False)) : runD n s ds = .rt y := by
  obtain ⟨x, e, rfl⟩ := hs_run (Q := fun x => x = y) h
  exact e
def lkD : List (Str × Int) → Str → Option Int → Option Int
  | [], _, a => a
  | s :: r, w, a => lkD r w (if s.1 = w then some s.2 else a)
def lk (sz : List (Str × Int)) (w : Str) : Option Int := lkD sz w none
theorem inB_t {n : Nat} {l ds : List PD} (a : Sh n (.tuple l)) (b : Sh n (.list ds)) (k : n ≤ 64) : inB (.tuple l) (.list ds) = .ok (ds.any fun z => PyData.eqv z (.tuple l)) := by
  show (if flatP (.tuple l) = true ∧ ds.all flatP = true then R.ok (ds.any fun d => eqF d (.tuple l)) else if SeqAt.shaped (.tuple l) = true ∧ SeqAt.shaped (.list ds) = true then R.ok (ds.any fun z => PyData.eqv z (.tuple l)) else R.bad) = _
  rw [if_neg (fun h => by cases h.1), if_pos ⟨a.ok k, b.ok k⟩]
section
variable {ρ : Rho} {N : Rho → Prop} {Rt : Sl → Prop} {Ct : Rho → Prop} {s : Rho → SR}
theorem hs_while {g : Rho → R Bool} {is : List Nat} {fuel : Nat} (I : Nat → Rho → Prop) (k : Nat) (hk : k < fuel) (h0 : I k ρ)
    (hs : ∀ (j : Nat) (ρ' : Rho), I j ρ' → ∃ c, g ρ' = .ok c ∧ (c = false → N ρ') ∧ (c = true → HS s ρ' (fun ρ2 => ∃ j', j' < j ∧ I j' (is.foldl (fun ρ i => ρ.set i none) ρ2)) Rt (fun ρ2 => ∃ j', j' < j ∧ I j' (is.foldl (fun ρ i => ρ.set i none) ρ2)))) : HS (sWhile fuel g (killS is s)) ρ N Rt Ct := by
  have go : ∀ (n k : Nat) (ρ : Rho), k < n → I k ρ → HSm (fun ρ => whileD g (killS is s) n ρ) ρ N Rt Ct := by
    intro n
    induction n with
    | zero => exact fun k ρ h _ => absurd h (Nat.not_lt_zero _)
    | succ n ih =>
      intro k ρ hk hI
      obtain ⟨c, ec, h1, h2⟩ := hs k ρ hI
      unfold HSm
      show (match whileD g (killS is s) (n + 1) ρ with
        | .nx ρ' => N ρ'
        | .rt x => Rt x
        | .ct ρ' => Ct ρ'
        | _ => False)
      unfold whileD
      rw [ec, x_of_ok]
      cases c with
      | false => rw [if_neg (by decide)]; exact h1 rfl
      | true =>
        rw [if_pos rfl, x_killS]
        have h2 := (h2 rfl).out
        unfold HSm at h2
        cases e2 : s ρ with
        | nx ρ2 =>
          rw [e2] at h2
          obtain ⟨j', hj, hI'⟩ := h2
          exact ih j' _ (by omega) hI'
        | rt x => rw [e2] at h2; exact h2
        | ct ρ2 =>
          rw [e2] at h2
          obtain ⟨j', hj, hI'⟩ := h2
          exact ih j' _ (by omega) hI'
        | bk ρ2 => rw [e2] at h2; exact h2.elim
        | exc c => rw [e2] at h2; exact h2.elim
        | bad => rw [e2] at h2; exact h2.elim
  exact ⟨go fuel k ρ hk h0⟩
end
end DL
namespace DL
open PySem L2
end DL
namespace K05
open PySem PySem.Spec PyProof.Rows L2 DL
noncomputable section
def S_signs_among : Rho → SR :=
  (sSeq (preK [2] (sFor (iItems (eVar 0)) (aName 2) (killS [2] (sIf (bOf (eOp ninD (rVar 2) (rVar 1))) (sRet (eC (.bool false))) sNext)))) (sRet (eC (.bool true))))
def d_signs_among : List PD → FR := runD 3 S_signs_among
def S_is_word : Rho → SR :=
  (sSeq (sIf (bOr (bNot (bOf (eChain leD leD (eC (.int 1)) (eCB lenD (aCons (rVar 0) aNil)) (eC (.int 8))))) (bOf (eInK kw_KEPT (rVar 0)))) (sRet (eC (.bool false))) sNext) (sRet (eCall 2 d_signs_among (aCons (eVar 0) (aCons (eC (.str (PySem.Str.ofString "abcdefghijklmnopqrstuvwxyz"))) aNil)))))
def d_is_word : List PD → FR := runD 1 S_is_word
def S_number_in : Rho → SR :=
  (sSeq (sSet 1 (eVar 0)) (sSeq (sIf (bOf (eM1 startsD (rVar 0) (eC (.str (PySem.Str.ofString "-"))))) (sSet 1 (eSl (rVar 0) (pSo (eC (.int 1))) pNo)) sNext) (sSeq (sIf (bOr (bNot (bOf (eChain leD leD (eC (.int 1)) (eCB lenD (aCons (rVar 1) aNil)) (eC (.int 30))))) (bNot (bOf (eCall 2 d_signs_among (aCons (eVar 1) (aCons (eC (.str (PySem.Str.ofString "0123456789"))) aNil)))))) (sRet (eC .none)) sNext) (sSeq (sIf (bAnd (bOf (eOp eqD (eOp ixD (rVar 1) (eC (.int 0))) (eC (.str (PySem.Str.ofString "0"))))) (bOf (eOp neD (rVar 0) (eC (.str (PySem.Str.ofString "0")))))) (sRet (eC .none)) sNext) (sRet (eCB intD (aCons (rVar 0) aNil)))))))
def d_number_in : List PD → FR := runD 2 S_number_in
def S_word_rows : Rho → SR :=
  (sSeq (sSetO 1 (oLst aNil)) (sSeq (preK [2, 3, 4] (sFor (iEnumD (aCons (eFz (eM1 splitD (rVar 0) (eC (.str (PySem.Str.ofString "\n"))))) aNil)) (aTup 2 (asCons (aName 2) (asCons (aName 3) asNil))) (killS [2, 3, 4] (sSeq (sSet 4 (eFz (eM0 wordsD (rVar 3)))) (sIf (bOf (eOp neD (rVar 4) (eFz (oLst aNil)))) (sAppend 1 (eTup (aCons (eVar 2) (aCons (eVar 4) aNil)))) sNext))))) (sRetV 1)))
def d_word_rows : List PD → FR := runD 5 S_word_rows
def S_is_kind : Rho → SR :=
  (sRet (eOp inD (rVar 1) (eFz (oLc (iItems (eVar 0)) (aTup 2 (asCons (aName 2) (asCons (aName 3) asNil))) gYes (eVar 2) [2, 3]))))
def d_is_kind : List PD → FR := runD 4 S_is_kind
def S_take_part : Rho → SX :=
  (xSeq (xIf (bOr (bOf (eOp neD (eCB lenD (aCons (rVar 2) aNil)) (eC (.int 2)))) (bNot (bOf (eCall 1 d_is_word (aCons (eOp ixD (rVar 2) (eC (.int 1))) aNil))))) (xRaise "BadRow" ["row"] (aCons (eVar 3) aNil)) (xLift sNext)) (xSeq (xIf (bNot (bOf (eCall 2 d_is_kind (aCons (eVar 0) (aCons (eOp ixD (rVar 2) (eC (.int 1))) aNil))))) (xRaise "NoKind" ["claim", "row"] (aCons (eC (.int 0)) (aCons (eVar 3) aNil))) (xLift sNext)) (xSeq (xIf (bOf (eOp eqD (eImm (eCB lenD (aCons (hVar 1) aNil))) (eC (.int 8)))) (xRaise "TooBig" ["claim", "row"] (aCons (eC (.int 0)) (aCons (eVar 3) aNil))) (xLift sNext)) (xLift (sAppendM 1 [] (mTup (maCons (mFr (eOp ixD (rVar 2) (eC (.int 1)))) (maCons (mOwn (oLst aNil)) maNil))))))))
def d_take_part : List Tv → XR := runX 4 [false, true, false, false] S_take_part
def S_take_size : Rho → SX :=
  (xSeq (xIf (bOr (bOf (eOp neD (eCB lenD (aCons (rVar 1) aNil)) (eC (.int 3)))) (bOr (bNot (bOf (eCall 1 d_is_word (aCons (eOp ixD (rVar 1) (eC (.int 1))) aNil)))) (bOr (bOf (eOp isND (eCall 1 d_number_in (aCons (eOp ixD (rVar 1) (eC (.int 2))) aNil)) (eC .none))) (bOf (eOp eqD (eImm (eCB lenD (aCons (hVar 0) aNil))) (eC (.int 0))))))) (xRaise "BadRow" ["row"] (aCons (eVar 2) aNil)) (xLift sNext)) (xAlias 0 3 (pIx 0 (pIx 0 pVar (eUn negD (eC (.int 1)))) (eC (.int 1))) (xaIf 0 3 (bOf (eOp inD (eOp ixD (rVar 1) (eC (.int 1))) (eFz (oLc (iPlB 3 pVar) (aTup 2 (asCons (aName 4) (asCons (aName 5) asNil))) gYes (eVar 4) [4, 5])))) (xRaise "Twice" ["row"] (aCons (eVar 2) aNil)) (xaIf 0 3 (bOf (eOp eqD (eCB lenD (aCons (rPl 3 pVar) aNil)) (eC (.int 4)))) (xRaise "TooBig" ["claim", "row"] (aCons (eC (.int 0)) (aCons (eVar 2) aNil))) (xaApp 0 (eTup (aCons (eOp ixD (rVar 1) (eC (.int 1))) (aCons (eCall 1 d_number_in (aCons (eOp ixD (rVar 1) (eC (.int 2))) aNil)) aNil))))))))
def d_take_size : List Tv → XR := runX 6 [true, false, false] S_take_size
def S_look_part : Rho → SR :=
  (sIf (bNot (bOf (eChain leD ltD (eC (.int 0)) (rVar 1) (eCB lenD (aCons (rVar 0) aNil))))) (sRaise "NoPart" ["row"] (aCons (eVar 2) aNil)) sNext)
def d_look_part : List PD → FR := runD 3 S_look_part
def S_take_join : Rho → SX :=
  (xSeq (xIf (bOr (bOf (eOp neD (eCB lenD (aCons (rVar 2) aNil)) (eC (.int 4)))) (bNot (bOf (eCall 1 d_is_word (aCons (eOp ixD (rVar 2) (eC (.int 1))) aNil))))) (xRaise "BadRow" ["row"] (aCons (eVar 3) aNil)) (xLift sNext)) (xSeq (xLift (sSet 4 (eCall 1 d_number_in (aCons (eOp ixD (rVar 2) (eC (.int 2))) aNil)))) (xSeq (xLift (sSet 5 (eCall 1 d_number_in (aCons (eOp ixD (rVar 2) (eC (.int 3))) aNil)))) (xSeq (xIf (bOr (bOf (eOp isND (rVar 4) (eC .none))) (bOr (bOf (eOp isND (rVar 5) (eC .none))) (bOf (eOp eqD (rVar 4) (rVar 5))))) (xRaise "BadRow" ["row"] (aCons (eVar 3) aNil)) (xLift sNext)) (xSeq (xLift (sDrop (eCallH 3 d_look_part (aCons (hPl 0 pVar) (aCons (hVar 4) (aCons (hVar 3) aNil)))))) (xSeq (xLift (sDrop (eCallH 3 d_look_part (aCons (hPl 0 pVar) (aCons (hVar 5) (aCons (hVar 3) aNil)))))) (xSeq (xIf (bOf (eOp inD (eTup (aCons (eOp ixD (rVar 2) (eC (.int 1))) (aCons (eVar 4) (aCons (eVar 5) aNil)))) (rVar 1))) (xRaise "Twice" ["row"] (aCons (eVar 3) aNil)) (xLift sNext)) (xSeq (xIf (bOf (eOp eqD (eCB lenD (aCons (rVar 1) aNil)) (eC (.int 16)))) (xRaise "TooBig" ["claim", "row"] (aCons (eC (.int 0)) (aCons (eVar 3) aNil))) (xLift sNext)) (xLift (sAppend 1 (eTup (aCons (eOp ixD (rVar 2) (eC (.int 1))) (aCons (eVar 4) (aCons (eVar 5) aNil))))))))))))))
def d_take_join : List Tv → XR := runX 6 [false, true, false, false] S_take_join
def S_take_step : Rho → SX :=
  (xSeq (xIf (bOr (bOf (eOp neD (eCB lenD (aCons (rVar 2) aNil)) (eC (.int 3)))) (bOr (bNot (bOf (eCall 1 d_is_word (aCons (eOp ixD (rVar 2) (eC (.int 1))) aNil)))) (bOf (eOp isND (eCall 1 d_number_in (aCons (eOp ixD (rVar 2) (eC (.int 2))) aNil)) (eC .none))))) (xRaise "BadRow" ["row"] (aCons (eVar 3) aNil)) (xLift sNext)) (xSeq (xLift (sDrop (eCallH 3 d_look_part (aCons (hPl 0 pVar) (aCons (eCall 1 d_number_in (aCons (eOp ixD (rVar 2) (eC (.int 2))) aNil)) (aCons (hVar 3) aNil)))))) (xSeq (xIf (bOf (eOp eqD (eCB lenD (aCons (rVar 1) aNil)) (eC (.int 8)))) (xRaise "TooBig" ["claim", "row"] (aCons (eC (.int 0)) (aCons (eVar 3) aNil))) (xLift sNext)) (xLift (sAppend 1 (eTup (aCons (eOp ixD (rVar 2) (eC (.int 1))) (aCons (eCall 1 d_number_in (aCons (eOp ixD (rVar 2) (eC (.int 2))) aNil)) aNil))))))))
def d_take_step : List Tv → XR := runX 4 [false, true, false, false] S_take_step
def S_read_thing : Rho → SR :=
  (sSeq (sSetM 2 [] (mLst maNil)) (sSeq (sSetO 3 (oLst aNil)) (sSeq (sSetO 4 (oLst aNil)) (sSeq (preK [5, 6] (sFor (iItems (eCall 1 d_word_rows (aCons (eVar 1) aNil))) (aTup 2 (asCons (aName 5) (asCons (aName 6) asNil))) (killS [5, 6] (sIf (bOf (eOp eqD (eOp ixD (rVar 6) (eC (.int 0))) (eC (.str (PySem.Str.ofString "part"))))) (sDropX [.e, .x 2, .e, .e] [2] d_take_part (maCons (mFr (eVar 0)) (maCons (mVar 2) (maCons (mFr (eVar 6)) (maCons (mFr (eVar 5)) xaNil))))) (sIf (bOf (eOp eqD (eOp ixD (rVar 6) (eC (.int 0))) (eC (.str (PySem.Str.ofString "size"))))) (sDropX [.x 2, .e, .e] [2] d_take_size (maCons (mVar 2) (maCons (mFr (eVar 6)) (maCons (mFr (eVar 5)) xaNil)))) (sIf (bOf (eOp eqD (eOp ixD (rVar 6) (eC (.int 0))) (eC (.str (PySem.Str.ofString "join"))))) (sDropX [.b 2, .x 3, .e, .e] [3] d_take_join (maCons (atP 2 pVar) (maCons (mVar 3) (maCons (mFr (eVar 6)) (maCons (mFr (eVar 5)) xaNil))))) (sIf (bOf (eOp eqD (eOp ixD (rVar 6) (eC (.int 0))) (eC (.str (PySem.Str.ofString "step"))))) (sDropX [.b 2, .x 4, .e, .e] [4] d_take_step (maCons (atP 2 pVar) (maCons (mVar 4) (maCons (mFr (eVar 6)) (maCons (mFr (eVar 5)) xaNil))))) (sRaise "BadRow" ["row"] (aCons (eVar 5) aNil))))))))) (sFrz [2] (sRetM (mTup (maCons (mLc (iItems (eVar 2)) (aTup 2 (asCons (aName 7) (asCons (aName 8) asNil))) gYes (mTup (maCons (mFr (eVar 7)) (maCons (mOwn (eCB sortedD (aCons (rVar 8) aNil))) maNil))) [7, 8]) (maCons (mOwn (eCB sortedD (aCons (rVar 3) aNil))) (maCons (mVar 4) maNil))))))))))
def d_read_thing : List PD → FR := runD 9 S_read_thing
def S_thing_rows : Rho → SR :=
  (sSeq (sAsg (eVar 0) (aTup 3 (asCons (aName 1) (asCons (aName 2) (asCons (aName 3) asNil))))) (sSeq (sSetO 4 (oLst aNil)) (sSeq (preK [5, 6, 7, 8] (sFor (iItems (eVar 1)) (aTup 2 (asCons (aName 5) (asCons (aName 6) asNil))) (killS [5, 6, 7, 8] (sSeq (sAppend 4 (eOp addD (eC (.str (PySem.Str.ofString "part "))) (rVar 5))) (preK [7, 8] (sFor (iItems (eVar 6)) (aTup 2 (asCons (aName 7) (asCons (aName 8) asNil))) (killS [7, 8] (sAppend 4 (eOp addD (eOp addD (eOp addD (eC (.str (PySem.Str.ofString "size "))) (rVar 7)) (eC (.str (PySem.Str.ofString " ")))) (eCB strD (aCons (rVar 8) aNil))))))))))) (sSeq (preK [7, 9, 10] (sFor (iItems (eVar 2)) (aTup 3 (asCons (aName 7) (asCons (aName 9) (asCons (aName 10) asNil)))) (killS [7, 9, 10] (sAppend 4 (eOp addD (eOp addD (eOp addD (eOp addD (eOp addD (eC (.str (PySem.Str.ofString "join "))) (rVar 7)) (eC (.str (PySem.Str.ofString " ")))) (eCB strD (aCons (rVar 9) aNil))) (eC (.str (PySem.Str.ofString " ")))) (eCB strD (aCons (rVar 10) aNil))))))) (sSeq (preK [7, 8] (sFor (iItems (eVar 3)) (aTup 2 (asCons (aName 7) (asCons (aName 8) asNil))) (killS [7, 8] (sAppend 4 (eOp addD (eOp addD (eOp addD (eC (.str (PySem.Str.ofString "step "))) (rVar 7)) (eC (.str (PySem.Str.ofString " ")))) (eCB strD (aCons (rVar 8) aNil))))))) (sRetV 4))))))
def d_thing_rows : List PD → FR := runD 11 S_thing_rows
def S_write_thing : Rho → SR :=
  (sRet (eM1 joinD (eC (.str (PySem.Str.ofString "\n"))) (eCall 1 d_thing_rows (aCons (eVar 0) aNil))))
def d_write_thing : List PD → FR := runD 1 S_write_thing
def S_law_mix : Rho → SR :=
  (sRet (eOp modD (eOp mulD (eOp addD (eOp addD (rVar 0) (eOp mulD (rVar 1) (rVar 1))) (eC (.int 1))) (rVar 2)) (eC (.int 2305843009213693951))))
def d_law_mix : List PD → FR := runD 3 S_law_mix
def S_law_salt : Rho → SR :=
  (sRet (eCall 3 d_law_mix (aCons (eCB sumD (aCons (eFz (oLc (iItems (eSl (rVar 0) pNo (pSo (eC (.int 63))))) (aName 2) gYes (eOp modD (rVar 2) (eC (.int 1000003))) [2])) aNil)) (aCons (eOp modD (eCB lenD (aCons (rVar 0) aNil)) (eC (.int 64))) (aCons (eVar 1) aNil)))))
def d_law_salt : List PD → FR := runD 3 S_law_salt
def S_law_name : Rho → SR :=
  (sSeq (sSet 2 (eC (.str (PySem.Str.ofString "bcdefghijklmnopqrstuvwxyz")))) (sSeq (sSet 3 (eOp ixD (rVar 2) (eOp modD (eOp addD (eOp mulD (eC (.int 7)) (rVar 0)) (eOp divD (rVar 1) (eC (.int 7)))) (eC (.int 25))))) (sSeq (sIf (bOf (eOp eqD (eOp modD (rVar 1) (eC (.int 5))) (eC (.int 0)))) (sRetV 3) sNext) (sSeq (sIf (bAnd (bOf (eOp eqD (eOp modD (rVar 1) (eC (.int 5))) (eC (.int 1)))) (bOf (eOp ltD (rVar 0) (eC (.int 8))))) (sRet (eOp mulD (eOp ixD (rVar 2) (eOp modD (eOp divD (rVar 1) (eC (.int 5))) (eC (.int 7)))) (eOp addD (eC (.int 1)) (eOp modD (eOp addD (eOp mulD (eC (.int 3)) (rVar 0)) (eOp divD (rVar 1) (eC (.int 35)))) (eC (.int 8)))))) sNext) (sSeq (sSet 4 (eOp addD (eC (.int 2)) (eOp modD (eOp divD (rVar 1) (eC (.int 5))) (eC (.int 7))))) (sSeq (sSet 5 (eOp modD (eOp divD (rVar 1) (eC (.int 35))) (eOp subD (rVar 4) (eC (.int 1))))) (sSeq (sSet 6 (eOp mulD (eOp ixD (rVar 2) (eOp modD (eOp divD (rVar 1) (eC (.int 245))) (eC (.int 25)))) (rVar 5))) (sRet (eOp addD (eOp addD (eOp addD (rVar 6) (rVar 3)) (eC (.str (PySem.Str.ofString "q")))) (eOp mulD (eOp ixD (rVar 2) (eOp modD (eOp divD (rVar 1) (eC (.int 6125))) (eC (.int 25)))) (eOp subD (eOp subD (rVar 4) (rVar 5)) (eC (.int 2)))))))))))))
def d_law_name : List PD → FR := runD 7 S_law_name
def S_law_kinds : Rho → SR :=
  (sSeq (sSetO 2 (oLst aNil)) (sSeq (preK [3, 4, 5] (sFor (iRng1D (aCons (eCB lenD (aCons (rVar 0) aNil)) aNil)) (aName 3) (killS [3, 4, 5] (sSeq (sSet 4 (eCall 3 d_law_mix (aCons (eOp ixD (rVar 0) (rVar 3)) (aCons (eVar 3) (aCons (eC (.int 1234567890123456789)) aNil))))) (sSeq (sSet 5 (eC (.str (PySem.Str.ofString "")))) (sSeq (sIf (bAnd (bOf (eOp gtD (rVar 3) (eC (.int 0)))) (bOf (eOp gtD (eOp modD (rVar 4) (eC (.int 4))) (eC (.int 0))))) (sSet 5 (eOp ixD (eOp ixD (rVar 2) (eOp modD (eOp divD (rVar 4) (eC (.int 4))) (rVar 3))) (eC (.int 0)))) sNext) (sAppend 2 (eTup (aCons (eCall 2 d_law_name (aCons (eVar 3) (aCons (eVar 1) aNil))) (aCons (eVar 5) aNil)))))))))) (sRetV 2)))
def d_law_kinds : List PD → FR := runD 6 S_law_kinds
def S_law_text : Rho → SR :=
  (sSeq (sSetO 2 (oLst aNil)) (sSeq (preK [3, 4, 5, 6] (sFor (iRng1D (aCons (eCB lenD (aCons (rVar 0) aNil)) aNil)) (aName 3) (killS [3, 4, 5, 6] (sSeq (sSet 4 (eCall 3 d_law_mix (aCons (eVar 1) (aCons (eVar 3) (aCons (eC (.int 1313131313131313131)) aNil))))) (sSeq (sSet 5 (eOp mulD (eC (.str (PySem.Str.ofString " "))) (eOp modD (rVar 4) (eC (.int 3))))) (sSeq (preK [6] (sFor (iItems (eOp ixD (rVar 0) (rVar 3))) (aName 6) (killS [6] (sSeq (sSet 5 (eOp addD (eOp addD (rVar 5) (rVar 6)) (eOp mulD (eC (.str (PySem.Str.ofString " "))) (eOp addD (eC (.int 1)) (eOp modD (eOp divD (rVar 4) (eC (.int 3))) (eC (.int 2))))))) (sSet 4 (eOp divD (rVar 4) (eC (.int 2)))))))) (sSeq (sAppend 2 (eVar 5)) (sIf (bOf (eOp eqD (eOp modD (rVar 4) (eC (.int 5))) (eC (.int 1)))) (sAppend 2 (eOp mulD (eC (.str (PySem.Str.ofString " "))) (eOp modD (eOp divD (rVar 4) (eC (.int 5))) (eC (.int 2))))) sNext)))))))) (sSeq (sIf (bOf (eOp eqD (eOp modD (eOp divD (rVar 1) (eC (.int 3))) (eC (.int 4))) (eC (.int 1)))) (sInsertD 2 (eC (.int 0)) (eC (.str (PySem.Str.ofString "")))) sNext) (sRet (eM1 joinD (eC (.str (PySem.Str.ofString "\n"))) (rVar 2))))))
def d_law_text : List PD → FR := runD 7 S_law_text
def S_law_number : Rho → SR :=
  (sSeq (sSet 1 (eOp subD (eOp modD (eOp divD (rVar 0) (eC (.int 6))) (eC (.int 7))) (eC (.int 3)))) (sSeq (sIf (bOf (eOp eqD (eOp modD (rVar 0) (eC (.int 3))) (eC (.int 1)))) (sSet 1 (eOp modD (eOp mulD (rVar 0) (eC (.int 48271))) (eOp powD (eC (.int 10)) (eC (.int 30))))) sNext) (sSeq (sIf (bOf (eOp eqD (eOp modD (rVar 0) (eC (.int 6))) (eC (.int 2)))) (sSet 1 (eUn negD (eOp modD (eOp mulD (rVar 0) (eC (.int 69621))) (eOp powD (eC (.int 10)) (eC (.int 30)))))) sNext) (sRetV 1))))
def d_law_number : List PD → FR := runD 2 S_law_number
def S_law_parts : Rho → SR :=
  (sSeq (sSetO 3 (oLst aNil)) (sSeq (preK [4, 5, 6, 7] (sFor (iRng1D (aCons (eCB lenD (aCons (rVar 1) aNil)) aNil)) (aName 4) (killS [4, 5, 6, 7] (sSeq (sSet 5 (eCall 3 d_law_mix (aCons (eOp ixD (rVar 1) (rVar 4)) (aCons (eVar 4) (aCons (eC (.int 1414141414141414141)) aNil))))) (sSeq (sSetO 6 oDnew) (sSeq (preK [7] (sFor (iRng1D (aCons (eOp modD (rVar 5) (eC (.int 5))) aNil)) (aName 7) (killS [7] (sDput 6 (eCall 2 d_law_name (aCons (eOp addD (eC (.int 16)) (eOp modD (eOp addD (eOp divD (rVar 5) (eC (.int 5))) (eOp mulD (rVar 7) (eOp addD (eC (.int 1)) (eOp modD (eOp divD (rVar 5) (eC (.int 50))) (eC (.int 3)))))) (eC (.int 9)))) (aCons (eOp divD (rVar 2) (eC (.int 3))) aNil))) (eCall 1 d_law_number (aCons (eOp divD (rVar 5) (eOp addD (eC (.int 11)) (rVar 7))) aNil)))))) (sFrz [6] (sAppend 3 (eTup (aCons (eOp ixD (eOp ixD (rVar 0) (eOp modD (eOp divD (rVar 5) (eC (.int 7))) (eCB lenD (aCons (rVar 0) aNil)))) (eC (.int 0))) (aCons (eVar 6) aNil))))))))))) (sRetV 3)))
def d_law_parts : List PD → FR := runD 8 S_law_parts
def S_law_joins : Rho → SR :=
  (sSeq (sSetO 3 (oLst aNil)) (sSeq (preK [4, 5, 6, 7, 8] (sFor (iRng1D (aCons (eCB lenD (aCons (rVar 1) aNil)) aNil)) (aName 4) (killS [4, 5, 6, 7, 8] (sSeq (sSet 5 (eCall 3 d_law_mix (aCons (eOp ixD (rVar 1) (rVar 4)) (aCons (eVar 4) (aCons (eC (.int 1515151515151515151)) aNil))))) (sSeq (sSet 6 (eOp modD (rVar 5) (eCB max2D (aCons (eC (.int 1)) (aCons (rVar 0) aNil))))) (sSeq (sSet 7 (eOp modD (eOp addD (eOp addD (rVar 6) (eC (.int 1))) (eOp modD (eOp divD (rVar 5) (eC (.int 9))) (eCB max2D (aCons (eC (.int 1)) (aCons (eOp subD (rVar 0) (eC (.int 1))) aNil))))) (eCB max2D (aCons (eC (.int 1)) (aCons (rVar 0) aNil))))) (sSeq (sSet 8 (eTup (aCons (eCall 2 d_law_name (aCons (eOp modD (eOp divD (rVar 5) (eC (.int 100))) (eC (.int 3))) (aCons (eOp divD (rVar 2) (eC (.int 5))) aNil))) (aCons (eVar 6) (aCons (eVar 7) aNil))))) (sIf (bAnd (bOf (eOp gtD (rVar 0) (eC (.int 1)))) (bOf (eOp ninD (rVar 8) (rVar 3)))) (sAppend 3 (eVar 8)) sNext)))))))) (sRetV 3)))
def d_law_joins : List PD → FR := runD 9 S_law_joins
def S_law_steps : Rho → SR :=
  (sSeq (sSetO 3 (oLst aNil)) (sSeq (preK [4, 5] (sFor (iRng1D (aCons (eCB lenD (aCons (rVar 1) aNil)) aNil)) (aName 4) (killS [4, 5] (sSeq (sSet 5 (eCall 3 d_law_mix (aCons (eOp ixD (rVar 1) (rVar 4)) (aCons (eVar 4) (aCons (eC (.int 1616161616161616161)) aNil))))) (sIf (bOf (eOp gtD (rVar 0) (eC (.int 0)))) (sAppend 3 (eTup (aCons (eCall 2 d_law_name (aCons (eOp modD (eOp divD (rVar 5) (eC (.int 11))) (eC (.int 3))) (aCons (eOp divD (rVar 2) (eC (.int 7))) aNil))) (aCons (eOp modD (rVar 5) (rVar 0)) aNil)))) sNext))))) (sRetV 3)))
def d_law_steps : List PD → FR := runD 6 S_law_steps
def S_law_thing_rows : Rho → SR :=
  (sSeq (sSetO 3 (oLst aNil)) (sSeq (preK [4, 5, 6] (sFor (iItems (eVar 0)) (aTup 2 (asCons (aName 4) (asCons (aName 5) asNil))) (killS [4, 5, 6] (sSeq (sAppend 3 (eFz (oLst (aCons (eC (.str (PySem.Str.ofString "part"))) (aCons (eVar 4) aNil))))) (sLockV 5 (preK [6] (sFor (iKeysD 5) (aName 6) (killS [6] (sAppend 3 (eFz (oLst (aCons (eC (.str (PySem.Str.ofString "size"))) (aCons (eVar 6) (aCons (eCB strD (aCons (eDget 5 (rVar 6)) aNil)) aNil)))))))))))))) (sSeq (preK [6, 7, 8] (sFor (iItems (eVar 1)) (aTup 3 (asCons (aName 6) (asCons (aName 7) (asCons (aName 8) asNil)))) (killS [6, 7, 8] (sAppend 3 (eFz (oLst (aCons (eC (.str (PySem.Str.ofString "join"))) (aCons (eVar 6) (aCons (eCB strD (aCons (rVar 7) aNil)) (aCons (eCB strD (aCons (rVar 8) aNil)) aNil)))))))))) (sSeq (preK [6, 7] (sFor (iItems (eVar 2)) (aTup 2 (asCons (aName 6) (asCons (aName 7) asNil))) (killS [6, 7] (sAppend 3 (eFz (oLst (aCons (eC (.str (PySem.Str.ofString "step"))) (aCons (eVar 6) (aCons (eCB strD (aCons (rVar 7) aNil)) aNil))))))))) (sRetV 3)))))
def d_law_thing_rows : List PD → FR := runD 9 S_law_thing_rows
def S_law_mixed : Rho → SR :=
  (sSeq (sSet 2 (eC (.int 0))) (sSeq (sSetO 3 (oLst aNil)) (sSeq (sSetO 4 (oLst aNil)) (sSeq (preK [5] (sFor (iItems (eVar 0)) (aName 5) (killS [5] (sIf (bOf (eOp inD (eOp ixD (rVar 5) (eC (.int 0))) (eTup (aCons (eC (.str (PySem.Str.ofString "join"))) (aCons (eC (.str (PySem.Str.ofString "step"))) aNil))))) (sAppend 4 (eVar 5)) sNext)))) (sSeq (preK [5] (sFor (iItems (eVar 0)) (aName 5) (killS [5] (sIf (bOf (eOp inD (eOp ixD (rVar 5) (eC (.int 0))) (eTup (aCons (eC (.str (PySem.Str.ofString "part"))) (aCons (eC (.str (PySem.Str.ofString "size"))) aNil))))) (sSeq (sAppend 3 (eVar 5)) (sSeq (sSet 2 (eOp addD (rVar 2) (eCB intD (aCons (eOp eqD (eOp ixD (rVar 5) (eC (.int 0))) (eC (.str (PySem.Str.ofString "part")))) aNil)))) (sSeq (preK [] (sWhile 20000000 (bAnd (bOf (eOp gtD (eOp modD (rVar 1) (eC (.int 3))) (eC (.int 0)))) (bAnd (bOf (eOp gtD (eCB lenD (aCons (rVar 4) aNil)) (eC (.int 0)))) (bOf (eOp ltD (eCB maxD (aCons (eFz (oLc (iItems (eSl (eOp ixD (rVar 4) (eC (.int 0))) (pSo (eC (.int 2))) pNo)) (aName 6) gYes (eCB intD (aCons (rVar 6) aNil)) [6])) aNil)) (rVar 2))))) (killS [] (sSeq (sAppend 3 (eOp ixD (rVar 4) (eC (.int 0)))) (sSetO 4 (oSl (rVar 4) (pSo (eC (.int 1))) pNo)))))) (sSet 1 (eOp divD (rVar 1) (eC (.int 2))))))) sNext)))) (sRet (eOp addD (rVar 3) (rVar 4))))))))
def d_law_mixed : List PD → FR := runD 7 S_law_mixed
def S_law_written : Rho → SR :=
  (sSeq (sSetO 3 (oLst aNil)) (sSeq (preK [4, 5, 6] (sFor (iItems (eVar 0)) (aTup 2 (asCons (aName 4) (asCons (aName 5) asNil))) (killS [4, 5, 6] (sSeq (sAppend 3 (eOp addD (eC (.str (PySem.Str.ofString "part "))) (rVar 4))) (preK [6] (sFor (iItems (eFz (eCB sortStrD (aCons (eFz (oDVlist (eVar 5))) aNil)))) (aName 6) (killS [6] (sAppend 3 (eOp addD (eOp addD (eOp addD (eC (.str (PySem.Str.ofString "size "))) (rVar 6)) (eC (.str (PySem.Str.ofString " ")))) (eCB strD (aCons (eDVget (eVar 5) (rVar 6)) aNil))))))))))) (sSeq (preK [6, 7, 8] (sFor (iItems (eFz (eCB sortedD (aCons (rVar 1) aNil)))) (aTup 3 (asCons (aName 6) (asCons (aName 7) (asCons (aName 8) asNil)))) (killS [6, 7, 8] (sAppend 3 (eOp addD (eOp addD (eOp addD (eOp addD (eOp addD (eC (.str (PySem.Str.ofString "join "))) (rVar 6)) (eC (.str (PySem.Str.ofString " ")))) (eCB strD (aCons (rVar 7) aNil))) (eC (.str (PySem.Str.ofString " ")))) (eCB strD (aCons (rVar 8) aNil))))))) (sSeq (preK [6, 7] (sFor (iItems (eVar 2)) (aTup 2 (asCons (aName 6) (asCons (aName 7) asNil))) (killS [6, 7] (sAppend 3 (eOp addD (eOp addD (eOp addD (eC (.str (PySem.Str.ofString "step "))) (rVar 6)) (eC (.str (PySem.Str.ofString " ")))) (eCB strD (aCons (rVar 7) aNil))))))) (sRet (eM1 joinD (eC (.str (PySem.Str.ofString "\n"))) (rVar 3)))))))
def d_law_written : List PD → FR := runD 9 S_law_written
def S_law_due : Rho → SR :=
  (sSeq (sSetO 3 (oLst aNil)) (sSeq (preK [4, 5] (sFor (iItems (eVar 0)) (aTup 2 (asCons (aName 4) (asCons (aName 5) asNil))) (killS [4, 5] (sAppend 3 (eTup (aCons (eVar 4) (aCons (eFz (oLc (iItems (eFz (eCB sortStrD (aCons (eFz (oDVlist (eVar 5))) aNil)))) (aName 6) gYes (eTup (aCons (eVar 6) (aCons (eDVget (eVar 5) (rVar 6)) aNil))) [6])) aNil))))))) (sFrz [3] (sRet (eTup (aCons (eVar 3) (aCons (eFz (eCB sortedD (aCons (rVar 1) aNil))) (aCons (eFz (eCB listD (aCons (rVar 2) aNil))) aNil))))))))
def d_law_due : List PD → FR := runD 7 S_law_due
def S_law_formed : Rho → SR :=
  (sSeq (sIf (bOr (bNot (bOf (eIsi "tuple" (rVar 0)))) (bOr (bOf (eOp neD (eCB lenD (aCons (rVar 0) aNil)) (eC (.int 3)))) (bNot (bOf (eCB allD (aCons (eFz (oLc (iItems (eVar 0)) (aName 2) gYes (eIsi "list" (rVar 2)) [2])) aNil)))))) (sRet (eC (.bool false))) sNext) (sSeq (preK [1] (sFor (iItems (eOp ixD (rVar 0) (eC (.int 0)))) (aName 1) (killS [1] (sIf (bOr (bNot (bOf (eIsi "tuple" (rVar 1)))) (bNot (bOf (eIsi "list" (eOp ixD (rVar 1) (eC (.int 1))))))) (sRet (eC (.bool false))) sNext)))) (sRet (eCB allD (aCons (eFz (oLc (iItems (eOp addD (eOp ixD (rVar 0) (eC (.int 1))) (eOp ixD (rVar 0) (eC (.int 2))))) (aName 3) gYes (eIsi "tuple" (rVar 3)) [3])) aNil)))))
def d_law_formed : List PD → FR := runD 4 S_law_formed
def S_law : Rho → SR :=
  (sSeq (sSet 1 (eCall 2 d_law_salt (aCons (eVar 0) (aCons (eC (.int 487654321987654321)) aNil)))) (sSeq (sSet 2 (eOp addD (eSl (rVar 0) pNo (pSo (eC (.int 63)))) (eFz (oLst (aCons (eOp divD (rVar 1) (eC (.int 3))) (aCons (eOp divD (rVar 1) (eC (.int 5))) (aCons (eOp divD (rVar 1) (eC (.int 7))) (aCons (eOp divD (rVar 1) (eC (.int 11))) aNil)))))))) (sSeq (sSet 3 (eCall 2 d_law_kinds (aCons (eSl (rVar 2) pNo (pSo (eOp addD (eC (.int 1)) (eOp modD (eOp divD (rVar 1) (eC (.int 13))) (eC (.int 6)))))) (aCons (eVar 1) aNil)))) (sSeq (sSet 4 (eCall 3 d_law_parts (aCons (eVar 3) (aCons (eSl (rVar 2) (pSo (eC (.int 2))) (pSo (eOp addD (eC (.int 2)) (eOp modD (eOp divD (rVar 1) (eC (.int 78))) (eC (.int 9)))))) (aCons (eVar 1) aNil))))) (sSeq (sSet 5 (eCall 3 d_law_joins (aCons (eCB lenD (aCons (rVar 4) aNil)) (aCons (eSl (rVar 2) (pSo (eC (.int 3))) (pSo (eOp addD (eC (.int 3)) (eOp modD (eOp divD (rVar 1) (eC (.int 702))) (eC (.int 17)))))) (aCons (eVar 1) aNil))))) (sSeq (sSet 6 (eCall 3 d_law_steps (aCons (eCB lenD (aCons (rVar 4) aNil)) (aCons (eSl (rVar 2) (pSo (eC (.int 1))) (pSo (eOp addD (eC (.int 1)) (eOp modD (eOp divD (rVar 1) (eC (.int 11934))) (eC (.int 9)))))) (aCons (eVar 1) aNil))))) (sSeq (sSet 7 (eCall 2 d_law_text (aCons (eCall 2 d_law_mixed (aCons (eCall 3 d_law_thing_rows (aCons (eVar 4) (aCons (eVar 5) (aCons (eVar 6) aNil)))) (aCons (eOp divD (rVar 1) (eC (.int 17))) aNil))) (aCons (eOp divD (rVar 1) (eC (.int 19))) aNil)))) (sSeq (sSetM 8 [] (mCall 2 d_read_thing (aCons (eFz (eCB listD (aCons (rVar 3) aNil))) (aCons (eVar 7) aNil)))) (sSeq (sSet 9 (eCall 3 d_law_due (aCons (eVar 4) (aCons (eVar 5) (aCons (eVar 6) aNil))))) (sSeq (sIf (bOr (bNot (bOf (eCallH 1 d_law_formed (aCons (hVar 8) aNil)))) (bOf (eOp neD (hVar 8) (hVar 9)))) (sRet (eC (.bool false))) sNext) (sSeq (sSet 10 (eCallH 1 d_write_thing (aCons (hVar 8) aNil))) (sSeq (sIf (bOr (bOf (eOp neD (rVar 10) (eCall 3 d_law_written (aCons (eVar 4) (aCons (eVar 5) (aCons (eVar 6) aNil)))))) (bOr (bOf (eOp neD (hVar 8) (hVar 9))) (bOf (eOp neD (eCall 2 d_read_thing (aCons (eFz (eCB listD (aCons (rVar 3) aNil))) (aCons (eVar 10) aNil))) (rVar 9))))) (sRet (eC (.bool false))) sNext) (sSeq (preK [11] (sForT 8 11 (killS [] (sAppendM 11 [] (mTup (maCons (mFr (eC (.str (PySem.Str.ofString "zz")))) (maCons (mOwn (oLst aNil)) maNil))))))) (sSeq (preK [12] (sForM 12 [8] (mAtM 8 (pIx 8 pVar (eC (.int 0)))) (killS [12] (sAppendP 12 (pIx 12 pVar (eC (.int 1))) (eTup (aCons (eC (.str (PySem.Str.ofString "zz"))) (aCons (eC (.int 1)) aNil))))))) (sRet (eAnd (eOp eqD (eCall 2 d_read_thing (aCons (eFz (eCB listD (aCons (rVar 3) aNil))) (aCons (eVar 7) aNil))) (rVar 9)) (eOp eqD (eCall 1 d_write_thing (aCons (eVar 9) aNil)) (rVar 10))))))))))))))))))
def d_law : List PD → FR := runD 13 S_law
end
end K05
namespace K05H
open PySem PySem.Spec PyProof.Rows L2 DL K05
abbrev FnP (K : PySem.W.Frag) (x : Str) (st : Stmt) : Prop := ∃ fd : FuncData, FunD K x x (defArgs st) (defBody st) (defScope st) [] [] (He.ga K x) fd
structure Ctx (K : PySem.W.Frag) (mg : Str → Option Value) : Prop where
  F_signs_among : FnP K "signs_among" s_signs_among
  g_signs_among : mg "signs_among" = some (.ref (He.ga K "signs_among"))
  F_is_word : FnP K "is_word" s_is_word
  g_is_word : mg "is_word" = some (.ref (He.ga K "is_word"))
  F_number_in : FnP K "number_in" s_number_in
  g_number_in : mg "number_in" = some (.ref (He.ga K "number_in"))
  F_word_rows : FnP K "word_rows" s_word_rows
  g_word_rows : mg "word_rows" = some (.ref (He.ga K "word_rows"))
  F_is_kind : FnP K "is_kind" s_is_kind
  g_is_kind : mg "is_kind" = some (.ref (He.ga K "is_kind"))
  F_take_part : FnP K "take_part" s_take_part
  g_take_part : mg "take_part" = some (.ref (He.ga K "take_part"))
  F_take_size : FnP K "take_size" s_take_size
  g_take_size : mg "take_size" = some (.ref (He.ga K "take_size"))
  F_look_part : FnP K "look_part" s_look_part
  g_look_part : mg "look_part" = some (.ref (He.ga K "look_part"))
  F_take_join : FnP K "take_join" s_take_join
  g_take_join : mg "take_join" = some (.ref (He.ga K "take_join"))
  F_take_step : FnP K "take_step" s_take_step
  g_take_step : mg "take_step" = some (.ref (He.ga K "take_step"))
  F_read_thing : FnP K "read_thing" s_read_thing
  g_read_thing : mg "read_thing" = some (.ref (He.ga K "read_thing"))
  F_thing_rows : FnP K "thing_rows" s_thing_rows
  g_thing_rows : mg "thing_rows" = some (.ref (He.ga K "thing_rows"))
  F_write_thing : FnP K "write_thing" s_write_thing
  g_write_thing : mg "write_thing" = some (.ref (He.ga K "write_thing"))
  F_law_mix : FnP K "_law_mix" s_law_mix
  g_law_mix : mg "_law_mix" = some (.ref (He.ga K "_law_mix"))
  F_law_salt : FnP K "_law_salt" s_law_salt
  g_law_salt : mg "_law_salt" = some (.ref (He.ga K "_law_salt"))
  F_law_name : FnP K "_law_name" s_law_name
  g_law_name : mg "_law_name" = some (.ref (He.ga K "_law_name"))
  F_law_kinds : FnP K "_law_kinds" s_law_kinds
  g_law_kinds : mg "_law_kinds" = some (.ref (He.ga K "_law_kinds"))
  F_law_text : FnP K "_law_text" s_law_text
  g_law_text : mg "_law_text" = some (.ref (He.ga K "_law_text"))
  F_law_number : FnP K "_law_number" s_law_number
  g_law_number : mg "_law_number" = some (.ref (He.ga K "_law_number"))
  F_law_parts : FnP K "_law_parts" s_law_parts
  g_law_parts : mg "_law_parts" = some (.ref (He.ga K "_law_parts"))
  F_law_joins : FnP K "_law_joins" s_law_joins
  g_law_joins : mg "_law_joins" = some (.ref (He.ga K "_law_joins"))
  F_law_steps : FnP K "_law_steps" s_law_steps
  g_law_steps : mg "_law_steps" = some (.ref (He.ga K "_law_steps"))
  F_law_thing_rows : FnP K "_law_thing_rows" s_law_thing_rows
  g_law_thing_rows : mg "_law_thing_rows" = some (.ref (He.ga K "_law_thing_rows"))
  F_law_mixed : FnP K "_law_mixed" s_law_mixed
  g_law_mixed : mg "_law_mixed" = some (.ref (He.ga K "_law_mixed"))
  F_law_written : FnP K "_law_written" s_law_written
  g_law_written : mg "_law_written" = some (.ref (He.ga K "_law_written"))
  F_law_due : FnP K "_law_due" s_law_due
  g_law_due : mg "_law_due" = some (.ref (He.ga K "_law_due"))
  F_law_formed : FnP K "_law_formed" s_law_formed
  g_law_formed : mg "_law_formed" = some (.ref (He.ga K "_law_formed"))
  F_law : FnP K "law" s_law
  g_law : mg "law" = some (.ref (He.ga K "law"))
  I_BadRow : ∃ fd : FuncData, FunD K "__init__" "BadRow.__init__" (defArgs i_BadRow) (defBody i_BadRow) (defScope i_BadRow) [] [] (He.ma K (He.ga K "BadRow") "__init__") fd
  O_BadRow : OCls K mg "BadRow" ["row"]
  I_NoKind : ∃ fd : FuncData, FunD K "__init__" "NoKind.__init__" (defArgs i_NoKind) (defBody i_NoKind) (defScope i_NoKind) [] [] (He.ma K (He.ga K "NoKind") "__init__") fd
  O_NoKind : OCls K mg "NoKind" ["claim", "row"]
  I_NoPart : ∃ fd : FuncData, FunD K "__init__" "NoPart.__init__" (defArgs i_NoPart) (defBody i_NoPart) (defScope i_NoPart) [] [] (He.ma K (He.ga K "NoPart") "__init__") fd
  O_NoPart : OCls K mg "NoPart" ["row"]
  I_TooBig : ∃ fd : FuncData, FunD K "__init__" "TooBig.__init__" (defArgs i_TooBig) (defBody i_TooBig) (defScope i_TooBig) [] [] (He.ma K (He.ga K "TooBig") "__init__") fd
  O_TooBig : OCls K mg "TooBig" ["claim", "row"]
  I_Twice : ∃ fd : FuncData, FunD K "__init__" "Twice.__init__" (defArgs i_Twice) (defBody i_Twice) (defScope i_Twice) [] [] (He.ma K (He.ga K "Twice") "__init__") fd
  O_Twice : OCls K mg "Twice" ["row"]
  b_all : mg "all" = none
  b_enumerate : mg "enumerate" = none
  b_int : mg "int" = none
  b_isinstance : mg "isinstance" = none
  b_len : mg "len" = none
  b_list : mg "list" = none
  b_max : mg "max" = none
  b_range : mg "range" = none
  b_sorted : mg "sorted" = none
  b_str : mg "str" = none
  b_sum : mg "sum" = none
  b_tuple : mg "tuple" = none
  c_FIGURES : ∃ t, mg "FIGURES" = some (.str "0123456789" t)
  c_KEPT : mg "KEPT" = some (.ref (He.ga K "KEPT"))
  k_KEPT : ∀ F : Hp, SqT K F (He.ga K "KEPT") ((kw_KEPT.map He.Dv.str).map (He.Dv.v K))
  c_MOST_FIGURES : ∃ t, mg "MOST_FIGURES" = some (.int 30 t)
  c_MOST_JOINS : ∃ t, mg "MOST_JOINS" = some (.int 16 t)
  c_MOST_PARTS : ∃ t, mg "MOST_PARTS" = some (.int 8 t)
  c_MOST_SIGNS : ∃ t, mg "MOST_SIGNS" = some (.int 8 t)
  c_MOST_SIZES : ∃ t, mg "MOST_SIZES" = some (.int 4 t)
  c_MOST_STEPS : ∃ t, mg "MOST_STEPS" = some (.int 8 t)
  c_SMALL : ∃ t, mg "SMALL" = some (.str "abcdefghijklmnopqrstuvwxyz" t)
theorem sci_BadRow : FnScope ["self", "row"] ["self", "row"] (defScope i_BadRow) := ⟨rfl, rfl, rfl, by decide +kernel, rfl, by decide +kernel, by decide +kernel⟩
theorem ki_BadRow {P : Program} {w : World} {K : PySem.W.Frag} {mg : Str → Option Value} {base : Heap} (C : Ctx K mg) : KeptI P w K mg base 1 "BadRow" ["row"] :=
  kept_cls (k := 0) (p := ("row", 1)) (r := []) C.I_BadRow C.O_BadRow sci_BadRow rfl (fun j q h => by
    match j, h with
    | 0, h => cases h; rfl
    | j + 1, h => cases h) rfl (by decide) (fun _ _ _ _ _ _ us hl => match us, hl with | [_, _], _ => rfl) fun f cdv A outer sh H E hr =>
      have nd := sci_BadRow.nd
      pss_one (ps_ost (pv 0) (pv 1))
theorem sci_NoKind : FnScope ["self", "claim", "row"] ["self", "claim", "row"] (defScope i_NoKind) := ⟨rfl, rfl, rfl, by decide +kernel, rfl, by decide +kernel, by decide +kernel⟩
theorem ki_NoKind {P : Program} {w : World} {K : PySem.W.Frag} {mg : Str → Option Value} {base : Heap} (C : Ctx K mg) : KeptI P w K mg base 1 "NoKind" ["claim", "row"] :=
  kept_cls (k := 0) (p := ("claim", 1)) (r := [("row", 2)]) C.I_NoKind C.O_NoKind sci_NoKind rfl (fun j q h => by
    match j, h with
    | 0, h => cases h; rfl
    | 1, h => cases h; rfl
    | j + 2, h => cases h) rfl (by decide) (fun _ _ _ _ _ _ us hl => match us, hl with | [_, _, _], _ => rfl) fun f cdv A outer sh H E hr =>
      have nd := sci_NoKind.nd
      pss_cons (ps_ost (pv 0) (pv 1)) (pss_one (ps_ost (pv 0) (pv 2)))
theorem sci_NoPart : FnScope ["self", "row"] ["self", "row"] (defScope i_NoPart) := ⟨rfl, rfl, rfl, by decide +kernel, rfl, by decide +kernel, by decide +kernel⟩
theorem ki_NoPart {P : Program} {w : World} {K : PySem.W.Frag} {mg : Str → Option Value} {base : Heap} (C : Ctx K mg) : KeptI P w K mg base 1 "NoPart" ["row"] :=
  kept_cls (k := 0) (p := ("row", 1)) (r := []) C.I_NoPart C.O_NoPart sci_NoPart rfl (fun j q h => by
    match j, h with
    | 0, h => cases h; rfl
    | j + 1, h => cases h) rfl (by decide) (fun _ _ _ _ _ _ us hl => match us, hl with | [_, _], _ => rfl) fun f cdv A outer sh H E hr =>
      have nd := sci_NoPart.nd
      pss_one (ps_ost (pv 0) (pv 1))
theorem sci_TooBig : FnScope ["self", "claim", "row"] ["self", "claim", "row"] (defScope i_TooBig) := ⟨rfl, rfl, rfl, by decide +kernel, rfl, by decide +kernel, by decide +kernel⟩
theorem ki_TooBig {P : Program} {w : World} {K : PySem.W.Frag} {mg : Str → Option Value} {base : Heap} (C : Ctx K mg) : KeptI P w K mg base 1 "TooBig" ["claim", "row"] :=
  kept_cls (k := 0) (p := ("claim", 1)) (r := [("row", 2)]) C.I_TooBig C.O_TooBig sci_TooBig rfl (fun j q h => by
    match j, h with
    | 0, h => cases h; rfl
    | 1, h => cases h; rfl
    | j + 2, h => cases h) rfl (by decide) (fun _ _ _ _ _ _ us hl => match us, hl with | [_, _, _], _ => rfl) fun f cdv A outer sh H E hr =>
      have nd := sci_TooBig.nd
      pss_cons (ps_ost (pv 0) (pv 1)) (pss_one (ps_ost (pv 0) (pv 2)))
theorem sci_Twice : FnScope ["self", "row"] ["self", "row"] (defScope i_Twice) := ⟨rfl, rfl, rfl, by decide +kernel, rfl, by decide +kernel, by decide +kernel⟩
theorem ki_Twice {P : Program} {w : World} {K : PySem.W.Frag} {mg : Str → Option Value} {base : Heap} (C : Ctx K mg) : KeptI P w K mg base 1 "Twice" ["row"] :=
  kept_cls (k := 0) (p := ("row", 1)) (r := []) C.I_Twice C.O_Twice sci_Twice rfl (fun j q h => by
    match j, h with
    | 0, h => cases h; rfl
    | j + 1, h => cases h) rfl (by decide) (fun _ _ _ _ _ _ us hl => match us, hl with | [_, _], _ => rfl) fun f cdv A outer sh H E hr =>
      have nd := sci_Twice.nd
      pss_one (ps_ost (pv 0) (pv 1))
theorem sc_signs_among : FnScope ["text", "signs", "sign"] ["text", "signs"] (defScope s_signs_among) := ⟨rfl, rfl, rfl, by decide +kernel, rfl, by decide +kernel, by decide +kernel⟩
theorem ok_signs_among {P : Program} {w : World} {K : PySem.W.Frag} {mg : Str → Option Value} {base : Heap} (C : Ctx K mg) : Kept P w K mg base 1 2 "signs_among" ["text", "signs"] d_signs_among := by
  have nd := sc_signs_among.nd
  exact kept_of C.F_signs_among C.g_signs_among sc_signs_among rfl rfl (fun _ _ _ _ _ _ us hl => match us, hl with | [_, _], _ => rfl) (s := S_signs_among) fun cdv A outer sh H E hr tk => ⟨_,
    (pss_cons (ps_for (passes_of rfl) rfl (pi_seq (pv 0)) (pg_name (i := 2) nd rfl (Or.inl rfl)) (pss_one (ps_if (pt_cmpR (op_nin2 (hu65 hr)) (pv 2) (pv 1) (by rfl)) (pss_one (ps_ret pe_bl)) pss_nil))) (pss_one (ps_ret pe_bl))),
    (ds_seq (ds_preK [2] (ds_for (vs := [2]) (di_seq (td_var 0)) (dg_name 2) (ds_kill [2] (ds_if (tt_test ((td_op rd_nin (tr_var 2) (tr_var 1))).r) (ds_ret td_bl) ds_next)))) (ds_ret td_bl))⟩
theorem sc_is_word : FnScope ["text"] ["text"] (defScope s_is_word) := ⟨rfl, rfl, rfl, by decide +kernel, rfl, by decide +kernel, by decide +kernel⟩
theorem ok_is_word {P : Program} {w : World} {K : PySem.W.Frag} {mg : Str → Option Value} {base : Heap} (C : Ctx K mg) : Kept P w K mg base 2 1 "is_word" ["text"] d_is_word := by
  obtain ⟨fd_signs_among, kp_signs_among, hg_signs_among, hb_signs_among, G_signs_among⟩ := ok_signs_among (P := P) (w := w) (base := base) C
  have nd := sc_is_word.nd
  exact kept_of C.F_is_word C.g_is_word sc_is_word rfl rfl (fun _ _ _ _ _ _ us hl => match us, hl with | [_], _ => rfl) (s := S_is_word) fun cdv A outer sh H E hr tk => ⟨_,
    (pss_cons (ps_if (PW.pt (pw_or (pt_not (pt_chain op_le op_le pe_int (pe_callB call_len (by rfl) C.b_len bb_len (pa_cons (pv 0) pa_nil)) (pe_glob (v := .int 8) rfl C.c_MOST_SIGNS.choose_spec ⟨_, rfl⟩))) (pw_or1 (pt_cmpR (op_in2 (hu65 hr)) (pv 0) (pe_glob (v := .ref (He.ga _ "KEPT")) rfl C.c_KEPT rfl) (by rfl))))) (pss_one (ps_ret pe_bl)) pss_nil) (pss_one (ps_ret (pe_callS G_signs_among (hr.mono (by decide)) (by rfl) hg_signs_among kp_signs_among hb_signs_among (fun σ => passAt tk σ) (pa_cons (pv 0) (pa_cons (pe_glob (v := .str "abcdefghijklmnopqrstuvwxyz") rfl C.c_SMALL.choose_spec ⟨_, rfl⟩) pa_nil)))))),
    (ds_seq (ds_if (tt_or (tt_not (tt_test ((td_chain rd_cmp rd_cmp (td_int).r ((td_cb rc_len (tq_cons (tr_var 0) tq_nil))).r (td_int).r)).r)) (tt_test ((td_inK C.k_KEPT (tr_var 0))).r)) (ds_ret td_bl) ds_next) (ds_ret (td_call (ta_cons (td_var 0) (ta_cons td_str ta_nil)))))⟩
theorem sc_number_in : FnScope ["text", "figures"] ["text"] (defScope s_number_in) := ⟨rfl, rfl, rfl, by decide +kernel, rfl, by decide +kernel, by decide +kernel⟩
theorem ok_number_in {P : Program} {w : World} {K : PySem.W.Frag} {mg : Str → Option Value} {base : Heap} (C : Ctx K mg) : Kept P w K mg base 2 1 "number_in" ["text"] d_number_in := by
  obtain ⟨fd_signs_among, kp_signs_among, hg_signs_among, hb_signs_among, G_signs_among⟩ := ok_signs_among (P := P) (w := w) (base := base) C
  have nd := sc_number_in.nd
  exact kept_of C.F_number_in C.g_number_in sc_number_in rfl rfl (fun _ _ _ _ _ _ us hl => match us, hl with | [_], _ => rfl) (s := S_number_in) fun cdv A outer sh H E hr tk => ⟨_,
    (pss_cons (ps_set (i := 1) nd rfl (Or.inl rfl) (pv 0)) (pss_cons (ps_if (pt_val (pe_m1 PySem.F.slot_str_startswith PySem.F.type_str_startswith mt_startswith (pv 0) pe_str)) (pss_one (ps_set (i := 1) nd rfl (Or.inl rfl) (pe_slice sl_2 (pv 0) (po_some pe_int) po_none))) pss_nil) (pss_cons (ps_if (PW.pt (pw_or (pt_not (pt_chain op_le op_le pe_int (pe_callB call_len (by rfl) C.b_len bb_len (pa_cons (pv 1) pa_nil)) (pe_glob (v := .int 30) rfl C.c_MOST_FIGURES.choose_spec ⟨_, rfl⟩))) (pw_or1 (pt_not (pt_val (pe_callS G_signs_among (hr.mono (by decide)) (by rfl) hg_signs_among kp_signs_among hb_signs_among (fun σ => passAt tk σ) (pa_cons (pv 1) (pa_cons (pe_glob (v := .str "0123456789") rfl C.c_FIGURES.choose_spec ⟨_, rfl⟩) pa_nil)))))))) (pss_one (ps_ret pe_non)) pss_nil) (pss_cons (ps_if (PW.pt (pw_and (pt_cmpR (op_eq2 hr.units) (pe_ix ix_seq (pv 1) pe_int (fun _ _ => rfl)) pe_str (nomark _)) (pw_and1 (pt_cmpR (op_ne2 hr.units) (pv 0) pe_str (nomark _))))) (pss_one (ps_ret pe_non)) pss_nil) (pss_one (ps_ret (pe_callTy call_int3 (by rfl) C.b_int bb_int (pa_cons (pv 0) pa_nil)))))))),
    (ds_seq (ds_set 1 (td_var 0)) (ds_seq (ds_if (tt_B ((td_m1 rm_starts (tr_var 0) (td_str).r)).r) (ds_set 1 (td_sl (tr_var 0) (tp_some (td_int).r) tp_no)) ds_next) (ds_seq (ds_if (tt_or (tt_not (tt_test ((td_chain rd_cmp rd_cmp (td_int).r ((td_cb rc_len (tq_cons (tr_var 1) tq_nil))).r (td_int).r)).r)) (tt_not (tt_B ((td_call (ta_cons (td_var 1) (ta_cons td_str ta_nil)))).r))) (ds_ret td_non) ds_next) (ds_seq (ds_if (tt_and (tt_test ((td_op rd_eq ((td_op rd_ix (tr_var 1) (td_int).r)).r (td_str).r)).r) (tt_test ((td_op rd_ne (tr_var 0) (td_str).r)).r)) (ds_ret td_non) ds_next) (ds_ret (td_cb rc_int (tq_cons (tr_var 0) tq_nil)))))))⟩
theorem sc_word_rows : FnScope ["text", "rows", "at", "row", "words"] ["text"] (defScope s_word_rows) := ⟨rfl, rfl, rfl, by decide +kernel, rfl, by decide +kernel, by decide +kernel⟩
theorem ok_word_rows {P : Program} {w : World} {K : PySem.W.Frag} {mg : Str → Option Value} {base : Heap} (C : Ctx K mg) : Kept P w K mg base 1 1 "word_rows" ["text"] d_word_rows := by
  have nd := sc_word_rows.nd
  exact kept_of C.F_word_rows C.g_word_rows sc_word_rows rfl rfl (fun _ _ _ _ _ _ us hl => match us, hl with | [_], _ => rfl) (s := S_word_rows) fun cdv A outer sh H E hr tk => ⟨_,
    (pss_cons (ps_set (i := 1) nd rfl (Or.inl rfl) (pe_lst pa_nil)) (pss_cons (ps_for (passes_of rfl) rfl (pi_enum (by rfl) C.b_enumerate (pa_cons (pe_m1 PySem.F.slot_str_split PySem.F.type_str_split mt_split (pv 0) pe_str) pa_nil)) (pg_tup rfl (pgs_cons (pg_name (i := 2) nd rfl (Or.inl rfl)) (pgs_cons (pg_name (i := 3) nd rfl (Or.inl rfl)) pgs_nil))) (pss_cons (ps_set (i := 4) nd rfl (Or.inl rfl) (pe_m0 PySem.F.slot_str_split PySem.F.type_str_split mt_words (pv 3))) (pss_one (ps_if (pt_cmpR (op_ne2 hr.units) (pv 4) (pe_lst pa_nil) (nomark _)) (pss_one (ps_expr (pe_bm PySem.F.plainAttrs_list PySem.F.slot_list_append PySem.F.type_list_append mt_append (pv 1) (pa_cons (pe_tup (pa_cons (pv 2) (pa_cons (pv 4) pa_nil))) pa_nil)))) pss_nil)))) (pss_one (ps_ret (pv 1))))),
    (ds_seq (ds_setO 1 (to_lst ta_nil)) (ds_seq (ds_preK [2, 3, 4] (ds_for (vs := [2, 3]) (di_enum (ta_cons ((to_m1 rmo_split (tr_var 0) (td_str).r)).e ta_nil)) (dg_tup (dgs_cons (dg_name 2) (dgs_cons (dg_name 3) dgs_nil))) (ds_kill [2, 3, 4] (ds_seq (ds_set 4 ((to_m0 rmo_words (tr_var 3))).e) (ds_if (tt_test ((td_op rd_ne (tr_var 4) (((to_lst ta_nil)).e).r)).r) (ds_append 1 (td_tup (ta_cons (td_var 2) (ta_cons (td_var 4) ta_nil)))) ds_next))))) (ds_retV 1)))⟩
theorem sc_is_kind : FnScope ["kinds", "word", "other", "upper"] ["kinds", "word"] (defScope s_is_kind) := ⟨rfl, rfl, rfl, by decide +kernel, rfl, by decide +kernel, by decide +kernel⟩
theorem ok_is_kind {P : Program} {w : World} {K : PySem.W.Frag} {mg : Str → Option Value} {base : Heap} (C : Ctx K mg) : Kept P w K mg base 1 2 "is_kind" ["kinds", "word"] d_is_kind := by
  have nd := sc_is_kind.nd
  exact kept_of C.F_is_kind C.g_is_kind sc_is_kind rfl rfl (fun _ _ _ _ _ _ us hl => match us, hl with | [_, _], _ => rfl) (s := S_is_kind) fun cdv A outer sh H E hr tk => ⟨_,
    (pss_one (ps_ret (pe_cmpR (op_in2 (hu65 hr)) (pv 1) (pe_lc (own := [("other", 2), ("upper", 3)]) rfl nd (pi_seq (pv 0)) (blkOk_by (by kernel_rfl)) (fun _ _ _ _ _ => (pg_tup rfl (pgs_cons (pg_name (i := 2) nd rfl (Or.inl rfl)) (pgs_cons (pg_name (i := 3) nd rfl (Or.inl rfl)) pgs_nil)))) (fun _ _ _ _ _ => pts_nil) (fun _ _ _ _ _ => (pv 2))) (by rfl)))),
    (ds_ret (td_op rd_in (tr_var 1) (((to_lc (vs := [2, 3]) (di_seq (td_var 0)) (dg_tup (dgs_cons (dg_name 2) (dgs_cons (dg_name 3) dgs_nil))) tt_yes (td_var 2))).e).r))⟩
theorem sc_take_part : FnScope ["kinds", "parts", "words", "at"] ["kinds", "parts", "words", "at"] (defScope s_take_part) := ⟨rfl, rfl, rfl, by decide +kernel, rfl, by decide +kernel, by decide +kernel⟩
theorem ok_take_part {P : Program} {w : World} {K : PySem.W.Frag} {mg : Str → Option Value} {base : Heap} (C : Ctx K mg) : KeptX P w K mg base 3 "take_part" ["kinds", "parts", "words", "at"] [false, true, false, false] d_take_part := by
  obtain ⟨fd_is_kind, kp_is_kind, hg_is_kind, hb_is_kind, G_is_kind⟩ := ok_is_kind (P := P) (w := w) (base := base) C
  obtain ⟨fd_is_word, kp_is_word, hg_is_word, hb_is_word, G_is_word⟩ := ok_is_word (P := P) (w := w) (base := base) C
  obtain ⟨fdI_BadRow, psI_BadRow, OI_BadRow, BI_BadRow, GI_BadRow⟩ := ki_BadRow (P := P) (w := w) (base := base) C
  obtain ⟨fdI_NoKind, psI_NoKind, OI_NoKind, BI_NoKind, GI_NoKind⟩ := ki_NoKind (P := P) (w := w) (base := base) C
  obtain ⟨fdI_TooBig, psI_TooBig, OI_TooBig, BI_TooBig, GI_TooBig⟩ := ki_TooBig (P := P) (w := w) (base := base) C
  have nd := sc_take_part.nd
  exact keptX_of C.F_take_part C.g_take_part sc_take_part rfl rfl (fun _ _ _ _ _ _ us hl => match us, hl with | [_, _, _, _], _ => rfl) (s := S_take_part) fun cdv A outer sh H E hr tk => ⟨_,
    (pss_cons (ps_if (PW.pt (pw_or (pt_cmpR (op_ne2 hr.units) (pe_callB call_len (by rfl) C.b_len bb_len (pa_cons (pv 2) pa_nil)) pe_int (nomark _)) (pw_or1 (pt_not (pt_val (pe_callS G_is_word (hr.mono (by decide)) (by rfl) hg_is_word kp_is_word hb_is_word (fun σ => passAt tk σ) (pa_cons (pe_ix ix_seq (pv 2) pe_int (fun _ _ => rfl)) pa_nil))))))) (pss_one (ps_raise rfl tk (pmk_ocls tk OI_BadRow GI_BadRow (hr.mono (by decide)) BI_BadRow (by rfl) (pa_cons (pv 3) pa_nil)))) pss_nil) (pss_cons (ps_if (pt_not (pt_val (pe_callS G_is_kind (hr.mono (by decide)) (by rfl) hg_is_kind kp_is_kind hb_is_kind (fun σ => passAt tk σ) (pa_cons (pv 0) (pa_cons (pe_ix ix_seq (pv 2) pe_int (fun _ _ => rfl)) pa_nil))))) (pss_one (ps_raise rfl tk (pmk_ocls tk OI_NoKind GI_NoKind (hr.mono (by decide)) BI_NoKind (by rfl) (pa_cons pe_int (pa_cons (pv 3) pa_nil))))) pss_nil) (pss_cons (ps_if (pt_cmpR (op_eq2 hr.units) (pe_callB call_len (by rfl) C.b_len bb_len (pa_cons (pv 1) pa_nil)) (pe_glob (v := .int 8) rfl C.c_MOST_PARTS.choose_spec ⟨_, rfl⟩) (nomark _)) (pss_one (ps_raise rfl tk (pmk_ocls tk OI_TooBig GI_TooBig (hr.mono (by decide)) BI_TooBig (by rfl) (pa_cons pe_int (pa_cons (pv 3) pa_nil))))) pss_nil) (pss_one (ps_expr (pe_bm PySem.F.plainAttrs_list PySem.F.slot_list_append PySem.F.type_list_append mt_append (pv 1) (pa_cons (pe_tup (pa_cons (pe_ix ix_seq (pv 2) pe_int (fun _ _ => rfl)) (pa_cons (pe_lst pa_nil) pa_nil))) pa_nil))))))),
    (xs_seq (xs_if (tt_or (tt_test ((td_op rd_ne ((td_cb rc_len (tq_cons (tr_var 2) tq_nil))).r (td_int).r)).r) (tt_not (tt_B ((td_call (ta_cons (td_op rd_ix (tr_var 2) (td_int).r) ta_nil))).r))) (xs_raise "BadRow" ["row"] (ta_cons (td_var 3) ta_nil)) (xs_of ds_next kp_next)) (xs_seq (xs_if (tt_not (tt_B ((td_call (ta_cons (td_var 0) (ta_cons (td_op rd_ix (tr_var 2) (td_int).r) ta_nil)))).r)) (xs_raise "NoKind" ["claim", "row"] (ta_cons td_int (ta_cons (td_var 3) ta_nil))) (xs_of ds_next kp_next)) (xs_seq (xs_if (tt_test ((td_op rd_eq (((th_cb rc_len (thq_cons (th_var 1) thq_nil))).e).r (td_int).r)).r) (xs_raise "TooBig" ["claim", "row"] (ta_cons td_int (ta_cons (td_var 3) ta_nil))) (xs_of ds_next kp_next)) (xs_of (ds_appendM 1 (tm_tup (tma_cons (tm_fr (td_op rd_ix (tr_var 2) (td_int).r)) (tma_cons (tm_own (to_lst ta_nil)) tma_nil)))) kp_drop))))⟩
theorem sc_take_size : FnScope ["parts", "words", "at", "sizes", "word", "number"] ["parts", "words", "at"] (defScope s_take_size) := ⟨rfl, rfl, rfl, by decide +kernel, rfl, by decide +kernel, by decide +kernel⟩
theorem ok_take_size {P : Program} {w : World} {K : PySem.W.Frag} {mg : Str → Option Value} {base : Heap} (C : Ctx K mg) : KeptX P w K mg base 3 "take_size" ["parts", "words", "at"] [true, false, false] d_take_size := by
  obtain ⟨fd_is_word, kp_is_word, hg_is_word, hb_is_word, G_is_word⟩ := ok_is_word (P := P) (w := w) (base := base) C
  obtain ⟨fd_number_in, kp_number_in, hg_number_in, hb_number_in, G_number_in⟩ := ok_number_in (P := P) (w := w) (base := base) C
  obtain ⟨fdI_BadRow, psI_BadRow, OI_BadRow, BI_BadRow, GI_BadRow⟩ := ki_BadRow (P := P) (w := w) (base := base) C
  obtain ⟨fdI_TooBig, psI_TooBig, OI_TooBig, BI_TooBig, GI_TooBig⟩ := ki_TooBig (P := P) (w := w) (base := base) C
  obtain ⟨fdI_Twice, psI_Twice, OI_Twice, BI_Twice, GI_Twice⟩ := ki_Twice (P := P) (w := w) (base := base) C
  have nd := sc_take_size.nd
  exact keptX_of C.F_take_size C.g_take_size sc_take_size rfl rfl (fun _ _ _ _ _ _ us hl => match us, hl with | [_, _, _], _ => rfl) (s := S_take_size) fun cdv A outer sh H E hr tk => ⟨_,
    (pss_cons (ps_if (PW.pt (pw_or (pt_cmpR (op_ne2 hr.units) (pe_callB call_len (by rfl) C.b_len bb_len (pa_cons (pv 1) pa_nil)) pe_int (nomark _)) (pw_or (pt_not (pt_val (pe_callS G_is_word (hr.mono (by decide)) (by rfl) hg_is_word kp_is_word hb_is_word (fun σ => passAt tk σ) (pa_cons (pe_ix ix_seq (pv 1) pe_int (fun _ _ => rfl)) pa_nil)))) (pw_or (pt_cmpR op_isN (pe_callS G_number_in (hr.mono (by decide)) (by rfl) hg_number_in kp_number_in hb_number_in (fun σ => passAt tk σ) (pa_cons (pe_ix ix_seq (pv 1) pe_int (fun _ _ => rfl)) pa_nil)) pe_non (nomark _)) (pw_or1 (pt_cmpR (op_eq2 hr.units) (pe_callB call_len (by rfl) C.b_len bb_len (pa_cons (pv 0) pa_nil)) pe_int (nomark _))))))) (pss_one (ps_raise rfl tk (pmk_ocls tk OI_BadRow GI_BadRow (hr.mono (by decide)) BI_BadRow (by rfl) (pa_cons (pv 2) pa_nil)))) pss_nil) (pss_cons (ps_set (i := 3) nd rfl (Or.inl rfl) (pe_ix ix_seq (pe_ix ix_seq (pv 0) (pe_un un_neg pe_int) (fun _ _ => rfl)) pe_int (fun _ _ => rfl))) (pss_cons (ps_if (pt_cmpR (op_in2 (hu65 hr)) (pe_ix ix_seq (pv 1) pe_int (fun _ _ => rfl)) (pe_lc (own := [("word", 4), ("number", 5)]) rfl nd (pi_seq (pv 3)) (blkOk_by (by kernel_rfl)) (fun _ _ _ _ _ => (pg_tup rfl (pgs_cons (pg_name (i := 4) nd rfl (Or.inl rfl)) (pgs_cons (pg_name (i := 5) nd rfl (Or.inl rfl)) pgs_nil)))) (fun _ _ _ _ _ => pts_nil) (fun _ _ _ _ _ => (pv 4))) (by rfl)) (pss_one (ps_raise rfl tk (pmk_ocls tk OI_Twice GI_Twice (hr.mono (by decide)) BI_Twice (by rfl) (pa_cons (pv 2) pa_nil)))) pss_nil) (pss_cons (ps_if (pt_cmpR (op_eq2 hr.units) (pe_callB call_len (by rfl) C.b_len bb_len (pa_cons (pv 3) pa_nil)) (pe_glob (v := .int 4) rfl C.c_MOST_SIZES.choose_spec ⟨_, rfl⟩) (nomark _)) (pss_one (ps_raise rfl tk (pmk_ocls tk OI_TooBig GI_TooBig (hr.mono (by decide)) BI_TooBig (by rfl) (pa_cons pe_int (pa_cons (pv 2) pa_nil))))) pss_nil) (pss_one (ps_expr (pe_bm PySem.F.plainAttrs_list PySem.F.slot_list_append PySem.F.type_list_append mt_append (pv 3) (pa_cons (pe_tup (pa_cons (pe_ix ix_seq (pv 1) pe_int (fun _ _ => rfl)) (pa_cons (pe_callS G_number_in (hr.mono (by decide)) (by rfl) hg_number_in kp_number_in hb_number_in (fun σ => passAt tk σ) (pa_cons (pe_ix ix_seq (pv 1) pe_int (fun _ _ => rfl)) pa_nil)) pa_nil))) pa_nil)))))))),
    (xs_seq (xs_if (tt_or (tt_test ((td_op rd_ne ((td_cb rc_len (tq_cons (tr_var 1) tq_nil))).r (td_int).r)).r) (tt_or (tt_not (tt_B ((td_call (ta_cons (td_op rd_ix (tr_var 1) (td_int).r) ta_nil))).r)) (tt_or (tt_test ((td_op rd_isN ((td_call (ta_cons (td_op rd_ix (tr_var 1) (td_int).r) ta_nil))).r (td_non).r)).r) (tt_test ((td_op rd_eq (((th_cb rc_len (thq_cons (th_var 0) thq_nil))).e).r (td_int).r)).r)))) (xs_raise "BadRow" ["row"] (ta_cons (td_var 2) ta_nil)) (xs_of ds_next kp_next)) (xs_alias (by decide) (by decide) (tp_ix 0 (tp_ix 0 (tp_var 0) ((td_un ru_neg (td_int).r)).r) (td_int).r) (xa_if (by decide) (tt_test ((td_op rd_in ((td_op rd_ix (tr_var 1) (td_int).r)).r (((to_lc (vs := [4, 5]) (di_plB 3 (tp_var 3)) (dg_tup (dgs_cons (dg_name 4) (dgs_cons (dg_name 5) dgs_nil))) tt_yes (td_var 4))).e).r)).r) (xs_raise "Twice" ["row"] (ta_cons (td_var 2) ta_nil)) (xa_if (by decide) (tt_test ((td_op rd_eq ((td_cb rc_len (tq_cons (tr_pl 3 (tp_var 3)) tq_nil))).r (td_int).r)).r) (xs_raise "TooBig" ["claim", "row"] (ta_cons td_int (ta_cons (td_var 2) ta_nil))) (xa_app (td_tup (ta_cons (td_op rd_ix (tr_var 1) (td_int).r) (ta_cons (td_call (ta_cons (td_op rd_ix (tr_var 1) (td_int).r) ta_nil)) ta_nil))))))))⟩
theorem sc_look_part : FnScope ["parts", "number", "at"] ["parts", "number", "at"] (defScope s_look_part) := ⟨rfl, rfl, rfl, by decide +kernel, rfl, by decide +kernel, by decide +kernel⟩
theorem ok_look_part {P : Program} {w : World} {K : PySem.W.Frag} {mg : Str → Option Value} {base : Heap} (C : Ctx K mg) : Kept P w K mg base 3 3 "look_part" ["parts", "number", "at"] d_look_part := by
  obtain ⟨fdI_NoPart, psI_NoPart, OI_NoPart, BI_NoPart, GI_NoPart⟩ := ki_NoPart (P := P) (w := w) (base := base) C
  have nd := sc_look_part.nd
  exact kept_of C.F_look_part C.g_look_part sc_look_part rfl rfl (fun _ _ _ _ _ _ us hl => match us, hl with | [_, _, _], _ => rfl) (s := S_look_part) fun cdv A outer sh H E hr tk => ⟨_,
    (pss_one (ps_if (pt_not (pt_chain op_le op_lt pe_int (pv 1) (pe_callB call_len (by rfl) C.b_len bb_len (pa_cons (pv 0) pa_nil)))) (pss_one (ps_raise rfl tk (pmk_ocls tk OI_NoPart GI_NoPart (hr.mono (by decide)) BI_NoPart (by rfl) (pa_cons (pv 2) pa_nil)))) pss_nil)),
    (ds_if (tt_not (tt_test ((td_chain rd_cmp rd_cmp (td_int).r (tr_var 1) ((td_cb rc_len (tq_cons (tr_var 0) tq_nil))).r)).r)) (ds_raise "NoPart" ["row"] (ta_cons (td_var 2) ta_nil)) ds_next)⟩
theorem sc_take_join : FnScope ["parts", "joins", "words", "at", "one", "other"] ["parts", "joins", "words", "at"] (defScope s_take_join) := ⟨rfl, rfl, rfl, by decide +kernel, rfl, by decide +kernel, by decide +kernel⟩
theorem ok_take_join {P : Program} {w : World} {K : PySem.W.Frag} {mg : Str → Option Value} {base : Heap} (C : Ctx K mg) : KeptX P w K mg base 4 "take_join" ["parts", "joins", "words", "at"] [false, true, false, false] d_take_join := by
  obtain ⟨fd_is_word, kp_is_word, hg_is_word, hb_is_word, G_is_word⟩ := ok_is_word (P := P) (w := w) (base := base) C
  obtain ⟨fd_look_part, kp_look_part, hg_look_part, hb_look_part, G_look_part⟩ := ok_look_part (P := P) (w := w) (base := base) C
  obtain ⟨fd_number_in, kp_number_in, hg_number_in, hb_number_in, G_number_in⟩ := ok_number_in (P := P) (w := w) (base := base) C
  obtain ⟨fdI_BadRow, psI_BadRow, OI_BadRow, BI_BadRow, GI_BadRow⟩ := ki_BadRow (P := P) (w := w) (base := base) C
  obtain ⟨fdI_TooBig, psI_TooBig, OI_TooBig, BI_TooBig, GI_TooBig⟩ := ki_TooBig (P := P) (w := w) (base := base) C
  obtain ⟨fdI_Twice, psI_Twice, OI_Twice, BI_Twice, GI_Twice⟩ := ki_Twice (P := P) (w := w) (base := base) C
  have nd := sc_take_join.nd
  exact keptX_of C.F_take_join C.g_take_join sc_take_join rfl rfl (fun _ _ _ _ _ _ us hl => match us, hl with | [_, _, _, _], _ => rfl) (s := S_take_join) fun cdv A outer sh H E hr tk => ⟨_,
    (pss_cons (ps_if (PW.pt (pw_or (pt_cmpR (op_ne2 hr.units) (pe_callB call_len (by rfl) C.b_len bb_len (pa_cons (pv 2) pa_nil)) pe_int (nomark _)) (pw_or1 (pt_not (pt_val (pe_callS G_is_word (hr.mono (by decide)) (by rfl) hg_is_word kp_is_word hb_is_word (fun σ => passAt tk σ) (pa_cons (pe_ix ix_seq (pv 2) pe_int (fun _ _ => rfl)) pa_nil))))))) (pss_one (ps_raise rfl tk (pmk_ocls tk OI_BadRow GI_BadRow (hr.mono (by decide)) BI_BadRow (by rfl) (pa_cons (pv 3) pa_nil)))) pss_nil) (pss_cons (ps_set (i := 4) nd rfl (Or.inl rfl) (pe_callS G_number_in (hr.mono (by decide)) (by rfl) hg_number_in kp_number_in hb_number_in (fun σ => passAt tk σ) (pa_cons (pe_ix ix_seq (pv 2) pe_int (fun _ _ => rfl)) pa_nil))) (pss_cons (ps_set (i := 5) nd rfl (Or.inl rfl) (pe_callS G_number_in (hr.mono (by decide)) (by rfl) hg_number_in kp_number_in hb_number_in (fun σ => passAt tk σ) (pa_cons (pe_ix ix_seq (pv 2) pe_int (fun _ _ => rfl)) pa_nil))) (pss_cons (ps_if (PW.pt (pw_or (pt_cmpR op_isN (pv 4) pe_non (nomark _)) (pw_or (pt_cmpR op_isN (pv 5) pe_non (nomark _)) (pw_or1 (pt_cmpR (op_eq2 hr.units) (pv 4) (pv 5) (nomark _)))))) (pss_one (ps_raise rfl tk (pmk_ocls tk OI_BadRow GI_BadRow (hr.mono (by decide)) BI_BadRow (by rfl) (pa_cons (pv 3) pa_nil)))) pss_nil) (pss_cons (ps_expr (pe_callS G_look_part (hr.mono (by decide)) (by rfl) hg_look_part kp_look_part hb_look_part (fun σ => passAt tk σ) (pa_cons (pv 0) (pa_cons (pv 4) (pa_cons (pv 3) pa_nil))))) (pss_cons (ps_expr (pe_callS G_look_part (hr.mono (by decide)) (by rfl) hg_look_part kp_look_part hb_look_part (fun σ => passAt tk σ) (pa_cons (pv 0) (pa_cons (pv 5) (pa_cons (pv 3) pa_nil))))) (pss_cons (ps_if (pt_cmpR (op_in2 (hu65 hr)) (pe_tup (pa_cons (pe_ix ix_seq (pv 2) pe_int (fun _ _ => rfl)) (pa_cons (pv 4) (pa_cons (pv 5) pa_nil)))) (pv 1) (by rfl)) (pss_one (ps_raise rfl tk (pmk_ocls tk OI_Twice GI_Twice (hr.mono (by decide)) BI_Twice (by rfl) (pa_cons (pv 3) pa_nil)))) pss_nil) (pss_cons (ps_if (pt_cmpR (op_eq2 hr.units) (pe_callB call_len (by rfl) C.b_len bb_len (pa_cons (pv 1) pa_nil)) (pe_glob (v := .int 16) rfl C.c_MOST_JOINS.choose_spec ⟨_, rfl⟩) (nomark _)) (pss_one (ps_raise rfl tk (pmk_ocls tk OI_TooBig GI_TooBig (hr.mono (by decide)) BI_TooBig (by rfl) (pa_cons pe_int (pa_cons (pv 3) pa_nil))))) pss_nil) (pss_one (ps_expr (pe_bm PySem.F.plainAttrs_list PySem.F.slot_list_append PySem.F.type_list_append mt_append (pv 1) (pa_cons (pe_tup (pa_cons (pe_ix ix_seq (pv 2) pe_int (fun _ _ => rfl)) (pa_cons (pv 4) (pa_cons (pv 5) pa_nil)))) pa_nil)))))))))))),
    (xs_seq (xs_if (tt_or (tt_test ((td_op rd_ne ((td_cb rc_len (tq_cons (tr_var 2) tq_nil))).r (td_int).r)).r) (tt_not (tt_B ((td_call (ta_cons (td_op rd_ix (tr_var 2) (td_int).r) ta_nil))).r))) (xs_raise "BadRow" ["row"] (ta_cons (td_var 3) ta_nil)) (xs_of ds_next kp_next)) (xs_seq (xs_of (ds_set 4 (td_call (ta_cons (td_op rd_ix (tr_var 2) (td_int).r) ta_nil))) (kp_asg kg_name)) (xs_seq (xs_of (ds_set 5 (td_call (ta_cons (td_op rd_ix (tr_var 2) (td_int).r) ta_nil))) (kp_asg kg_name)) (xs_seq (xs_if (tt_or (tt_test ((td_op rd_isN (tr_var 4) (td_non).r)).r) (tt_or (tt_test ((td_op rd_isN (tr_var 5) (td_non).r)).r) (tt_test ((td_op rd_eq (tr_var 4) (tr_var 5))).r))) (xs_raise "BadRow" ["row"] (ta_cons (td_var 3) ta_nil)) (xs_of ds_next kp_next)) (xs_seq (xs_of (ds_drop (td_callH (thq_cons (th_pl 0 (tp_var 0)) (thq_cons (th_var 4) (thq_cons (th_var 3) thq_nil))))) kp_drop) (xs_seq (xs_of (ds_drop (td_callH (thq_cons (th_pl 0 (tp_var 0)) (thq_cons (th_var 5) (thq_cons (th_var 3) thq_nil))))) kp_drop) (xs_seq (xs_if (tt_test ((td_op rd_in ((td_tup (ta_cons (td_op rd_ix (tr_var 2) (td_int).r) (ta_cons (td_var 4) (ta_cons (td_var 5) ta_nil))))).r (tr_var 1))).r) (xs_raise "Twice" ["row"] (ta_cons (td_var 3) ta_nil)) (xs_of ds_next kp_next)) (xs_seq (xs_if (tt_test ((td_op rd_eq ((td_cb rc_len (tq_cons (tr_var 1) tq_nil))).r (td_int).r)).r) (xs_raise "TooBig" ["claim", "row"] (ta_cons td_int (ta_cons (td_var 3) ta_nil))) (xs_of ds_next kp_next)) (xs_of (ds_append 1 (td_tup (ta_cons (td_op rd_ix (tr_var 2) (td_int).r) (ta_cons (td_var 4) (ta_cons (td_var 5) ta_nil))))) kp_drop)))))))))⟩
theorem sc_take_step : FnScope ["parts", "steps", "words", "at"] ["parts", "steps", "words", "at"] (defScope s_take_step) := ⟨rfl, rfl, rfl, by decide +kernel, rfl, by decide +kernel, by decide +kernel⟩
theorem ok_take_step {P : Program} {w : World} {K : PySem.W.Frag} {mg : Str → Option Value} {base : Heap} (C : Ctx K mg) : KeptX P w K mg base 4 "take_step" ["parts", "steps", "words", "at"] [false, true, false, false] d_take_step := by
  obtain ⟨fd_is_word, kp_is_word, hg_is_word, hb_is_word, G_is_word⟩ := ok_is_word (P := P) (w := w) (base := base) C
  obtain ⟨fd_look_part, kp_look_part, hg_look_part, hb_look_part, G_look_part⟩ := ok_look_part (P := P) (w := w) (base := base) C
  obtain ⟨fd_number_in, kp_number_in, hg_number_in, hb_number_in, G_number_in⟩ := ok_number_in (P := P) (w := w) (base := base) C
  obtain ⟨fdI_BadRow, psI_BadRow, OI_BadRow, BI_BadRow, GI_BadRow⟩ := ki_BadRow (P := P) (w := w) (base := base) C
  obtain ⟨fdI_TooBig, psI_TooBig, OI_TooBig, BI_TooBig, GI_TooBig⟩ := ki_TooBig (P := P) (w := w) (base := base) C
  have nd := sc_take_step.nd
  exact keptX_of C.F_take_step C.g_take_step sc_take_step rfl rfl (fun _ _ _ _ _ _ us hl => match us, hl with | [_, _, _, _], _ => rfl) (s := S_take_step) fun cdv A outer sh H E hr tk => ⟨_,
    (pss_cons (ps_if (PW.pt (pw_or (pt_cmpR (op_ne2 hr.units) (pe_callB call_len (by rfl) C.b_len bb_len (pa_cons (pv 2) pa_nil)) pe_int (nomark _)) (pw_or (pt_not (pt_val (pe_callS G_is_word (hr.mono (by decide)) (by rfl) hg_is_word kp_is_word hb_is_word (fun σ => passAt tk σ) (pa_cons (pe_ix ix_seq (pv 2) pe_int (fun _ _ => rfl)) pa_nil)))) (pw_or1 (pt_cmpR op_isN (pe_callS G_number_in (hr.mono (by decide)) (by rfl) hg_number_in kp_number_in hb_number_in (fun σ => passAt tk σ) (pa_cons (pe_ix ix_seq (pv 2) pe_int (fun _ _ => rfl)) pa_nil)) pe_non (nomark _)))))) (pss_one (ps_raise rfl tk (pmk_ocls tk OI_BadRow GI_BadRow (hr.mono (by decide)) BI_BadRow (by rfl) (pa_cons (pv 3) pa_nil)))) pss_nil) (pss_cons (ps_expr (pe_callS G_look_part (hr.mono (by decide)) (by rfl) hg_look_part kp_look_part hb_look_part (fun σ => passAt tk σ) (pa_cons (pv 0) (pa_cons (pe_callS G_number_in (hr.mono (by decide)) (by rfl) hg_number_in kp_number_in hb_number_in (fun σ => passAt tk σ) (pa_cons (pe_ix ix_seq (pv 2) pe_int (fun _ _ => rfl)) pa_nil)) (pa_cons (pv 3) pa_nil))))) (pss_cons (ps_if (pt_cmpR (op_eq2 hr.units) (pe_callB call_len (by rfl) C.b_len bb_len (pa_cons (pv 1) pa_nil)) (pe_glob (v := .int 8) rfl C.c_MOST_STEPS.choose_spec ⟨_, rfl⟩) (nomark _)) (pss_one (ps_raise rfl tk (pmk_ocls tk OI_TooBig GI_TooBig (hr.mono (by decide)) BI_TooBig (by rfl) (pa_cons pe_int (pa_cons (pv 3) pa_nil))))) pss_nil) (pss_one (ps_expr (pe_bm PySem.F.plainAttrs_list PySem.F.slot_list_append PySem.F.type_list_append mt_append (pv 1) (pa_cons (pe_tup (pa_cons (pe_ix ix_seq (pv 2) pe_int (fun _ _ => rfl)) (pa_cons (pe_callS G_number_in (hr.mono (by decide)) (by rfl) hg_number_in kp_number_in hb_number_in (fun σ => passAt tk σ) (pa_cons (pe_ix ix_seq (pv 2) pe_int (fun _ _ => rfl)) pa_nil)) pa_nil))) pa_nil))))))),
    (xs_seq (xs_if (tt_or (tt_test ((td_op rd_ne ((td_cb rc_len (tq_cons (tr_var 2) tq_nil))).r (td_int).r)).r) (tt_or (tt_not (tt_B ((td_call (ta_cons (td_op rd_ix (tr_var 2) (td_int).r) ta_nil))).r)) (tt_test ((td_op rd_isN ((td_call (ta_cons (td_op rd_ix (tr_var 2) (td_int).r) ta_nil))).r (td_non).r)).r))) (xs_raise "BadRow" ["row"] (ta_cons (td_var 3) ta_nil)) (xs_of ds_next kp_next)) (xs_seq (xs_of (ds_drop (td_callH (thq_cons (th_pl 0 (tp_var 0)) (thq_cons ((td_call (ta_cons (td_op rd_ix (tr_var 2) (td_int).r) ta_nil))).h (thq_cons (th_var 3) thq_nil))))) kp_drop) (xs_seq (xs_if (tt_test ((td_op rd_eq ((td_cb rc_len (tq_cons (tr_var 1) tq_nil))).r (td_int).r)).r) (xs_raise "TooBig" ["claim", "row"] (ta_cons td_int (ta_cons (td_var 3) ta_nil))) (xs_of ds_next kp_next)) (xs_of (ds_append 1 (td_tup (ta_cons (td_op rd_ix (tr_var 2) (td_int).r) (ta_cons (td_call (ta_cons (td_op rd_ix (tr_var 2) (td_int).r) ta_nil)) ta_nil)))) kp_drop))))⟩
theorem sc_read_thing : FnScope ["kinds", "text", "parts", "joins", "steps", "at", "words", "kind", "sizes"] ["kinds", "text"] (defScope s_read_thing) := ⟨rfl, rfl, rfl, by decide +kernel, rfl, by decide +kernel, by decide +kernel⟩
theorem ok_read_thing {P : Program} {w : World} {K : PySem.W.Frag} {mg : Str → Option Value} {base : Heap} (C : Ctx K mg) : Kept P w K mg base 5 2 "read_thing" ["kinds", "text"] d_read_thing := by
  obtain ⟨fd_take_join, kp_take_join, hg_take_join, hb_take_join, G_take_join⟩ := ok_take_join (P := P) (w := w) (base := base) C
  obtain ⟨fd_take_part, kp_take_part, hg_take_part, hb_take_part, G_take_part⟩ := ok_take_part (P := P) (w := w) (base := base) C
  obtain ⟨fd_take_size, kp_take_size, hg_take_size, hb_take_size, G_take_size⟩ := ok_take_size (P := P) (w := w) (base := base) C
  obtain ⟨fd_take_step, kp_take_step, hg_take_step, hb_take_step, G_take_step⟩ := ok_take_step (P := P) (w := w) (base := base) C
  obtain ⟨fd_word_rows, kp_word_rows, hg_word_rows, hb_word_rows, G_word_rows⟩ := ok_word_rows (P := P) (w := w) (base := base) C
  obtain ⟨fdI_BadRow, psI_BadRow, OI_BadRow, BI_BadRow, GI_BadRow⟩ := ki_BadRow (P := P) (w := w) (base := base) C
  have nd := sc_read_thing.nd
  exact kept_of C.F_read_thing C.g_read_thing sc_read_thing rfl rfl (fun _ _ _ _ _ _ us hl => match us, hl with | [_, _], _ => rfl) (s := S_read_thing) fun cdv A outer sh H E hr tk => ⟨_,
    (pss_cons (ps_set (i := 2) nd rfl (Or.inl rfl) (pe_lst pa_nil)) (pss_cons (ps_set (i := 3) nd rfl (Or.inl rfl) (pe_lst pa_nil)) (pss_cons (ps_set (i := 4) nd rfl (Or.inl rfl) (pe_lst pa_nil)) (pss_cons (ps_for (passes_of rfl) rfl (pi_seq (pe_callS G_word_rows (hr.mono (by decide)) (by rfl) hg_word_rows kp_word_rows hb_word_rows (fun σ => passAt tk σ) (pa_cons (pv 1) pa_nil))) (pg_tup rfl (pgs_cons (pg_name (i := 5) nd rfl (Or.inl rfl)) (pgs_cons (pg_name (i := 6) nd rfl (Or.inl rfl)) pgs_nil))) (pss_one (ps_if (pt_cmpR (op_eq2 hr.units) (pe_ix ix_seq (pv 6) pe_int (fun _ _ => rfl)) pe_str (nomark _)) (pss_one (ps_expr (pe_callS G_take_part (hr.mono (by decide)) (by rfl) hg_take_part kp_take_part hb_take_part (fun σ => passAt tk σ) (pa_cons (pv 0) (pa_cons (pv 2) (pa_cons (pv 6) (pa_cons (pv 5) pa_nil))))))) (pss_one (ps_if (pt_cmpR (op_eq2 hr.units) (pe_ix ix_seq (pv 6) pe_int (fun _ _ => rfl)) pe_str (nomark _)) (pss_one (ps_expr (pe_callS G_take_size (hr.mono (by decide)) (by rfl) hg_take_size kp_take_size hb_take_size (fun σ => passAt tk σ) (pa_cons (pv 2) (pa_cons (pv 6) (pa_cons (pv 5) pa_nil)))))) (pss_one (ps_if (pt_cmpR (op_eq2 hr.units) (pe_ix ix_seq (pv 6) pe_int (fun _ _ => rfl)) pe_str (nomark _)) (pss_one (ps_expr (pe_callS G_take_join (hr.mono (by decide)) (by rfl) hg_take_join kp_take_join hb_take_join (fun σ => passAt tk σ) (pa_cons (pv 2) (pa_cons (pv 3) (pa_cons (pv 6) (pa_cons (pv 5) pa_nil))))))) (pss_one (ps_if (pt_cmpR (op_eq2 hr.units) (pe_ix ix_seq (pv 6) pe_int (fun _ _ => rfl)) pe_str (nomark _)) (pss_one (ps_expr (pe_callS G_take_step (hr.mono (by decide)) (by rfl) hg_take_step kp_take_step hb_take_step (fun σ => passAt tk σ) (pa_cons (pv 2) (pa_cons (pv 4) (pa_cons (pv 6) (pa_cons (pv 5) pa_nil))))))) (pss_one (ps_raise rfl tk (pmk_ocls tk OI_BadRow GI_BadRow (hr.mono (by decide)) BI_BadRow (by rfl) (pa_cons (pv 5) pa_nil))))))))))))) (pss_one (ps_ret (pe_tup (pa_cons (pe_lc (own := [("kind", 7), ("sizes", 8)]) rfl nd (pi_seq (pv 2)) (blkOk_by (by kernel_rfl)) (fun _ _ _ _ _ => (pg_tup rfl (pgs_cons (pg_name (i := 7) nd rfl (Or.inl rfl)) (pgs_cons (pg_name (i := 8) nd rfl (Or.inl rfl)) pgs_nil)))) (fun _ _ _ _ _ => pts_nil) (fun _ _ _ _ _ => (pe_tup (pa_cons (pv 7) (pa_cons (pe_callB cr_sort2 (by rfl) C.b_sorted bb_sorted (pa_cons (pv 8) pa_nil)) pa_nil))))) (pa_cons (pe_callB cr_sort2 (by rfl) C.b_sorted bb_sorted (pa_cons (pv 3) pa_nil)) (pa_cons (pv 4) pa_nil)))))))))),
    (ds_seq (ds_setM 2 (tm_lst tma_nil)) (ds_seq (ds_setO 3 (to_lst ta_nil)) (ds_seq (ds_setO 4 (to_lst ta_nil)) (ds_seq (ds_preK [5, 6] (ds_for (vs := [5, 6]) (di_seq (td_call (ta_cons (td_var 1) ta_nil))) (dg_tup (dgs_cons (dg_name 5) (dgs_cons (dg_name 6) dgs_nil))) (ds_kill [5, 6] (ds_if (tt_test ((td_op rd_eq ((td_op rd_ix (tr_var 6) (td_int).r)).r (td_str).r)).r) (ds_dropX (c_fn (xa_cons (x1_e (td_var 0)) (xa_cons (x1_x 2) (xa_cons (x1_e (td_var 6)) (xa_cons (x1_e (td_var 5)) xa_nil)))))) (ds_if (tt_test ((td_op rd_eq ((td_op rd_ix (tr_var 6) (td_int).r)).r (td_str).r)).r) (ds_dropX (c_fn (xa_cons (x1_x 2) (xa_cons (x1_e (td_var 6)) (xa_cons (x1_e (td_var 5)) xa_nil))))) (ds_if (tt_test ((td_op rd_eq ((td_op rd_ix (tr_var 6) (td_int).r)).r (td_str).r)).r) (ds_dropX (c_fn (xa_cons (x1_b 2 (tp_var 2)) (xa_cons (x1_x 3) (xa_cons (x1_e (td_var 6)) (xa_cons (x1_e (td_var 5)) xa_nil)))))) (ds_if (tt_test ((td_op rd_eq ((td_op rd_ix (tr_var 6) (td_int).r)).r (td_str).r)).r) (ds_dropX (c_fn (xa_cons (x1_b 2 (tp_var 2)) (xa_cons (x1_x 4) (xa_cons (x1_e (td_var 6)) (xa_cons (x1_e (td_var 5)) xa_nil)))))) (ds_raise "BadRow" ["row"] (ta_cons (td_var 5) ta_nil))))))))) (ds_frz [2] (ds_retM (tm_tup (tma_cons (tm_lc (ws := [7, 8]) (di_seq (td_var 2)) (dg_tup (dgs_cons (dg_name 7) (dgs_cons (dg_name 8) dgs_nil))) tt_yes (tm_tup (tma_cons (tm_fr (td_var 7)) (tma_cons (tm_own (to_cb rco_sorted (tq_cons (tr_var 8) tq_nil))) tma_nil)))) (tma_cons (tm_own (to_cb rco_sorted (tq_cons (tr_var 3) tq_nil))) (tma_cons (tm_var 4) tma_nil))))))))))⟩
theorem sc_thing_rows : FnScope ["thing", "parts", "joins", "steps", "rows", "kind", "sizes", "word", "number", "one", "other"] ["thing"] (defScope s_thing_rows) := ⟨rfl, rfl, rfl, by decide +kernel, rfl, by decide +kernel, by decide +kernel⟩
theorem ok_thing_rows {P : Program} {w : World} {K : PySem.W.Frag} {mg : Str → Option Value} {base : Heap} (C : Ctx K mg) : Kept P w K mg base 1 1 "thing_rows" ["thing"] d_thing_rows := by
  have nd := sc_thing_rows.nd
  exact kept_of C.F_thing_rows C.g_thing_rows sc_thing_rows rfl rfl (fun _ _ _ _ _ _ us hl => match us, hl with | [_], _ => rfl) (s := S_thing_rows) fun cdv A outer sh H E hr tk => ⟨_,
    (pss_cons (ps_asg (pv 0) (pg_tup rfl (pgs_cons (pg_name (i := 1) nd rfl (Or.inl rfl)) (pgs_cons (pg_name (i := 2) nd rfl (Or.inl rfl)) (pgs_cons (pg_name (i := 3) nd rfl (Or.inl rfl)) pgs_nil))))) (pss_cons (ps_set (i := 4) nd rfl (Or.inl rfl) (pe_lst pa_nil)) (pss_cons (ps_for (passes_of rfl) rfl (pi_seq (pv 1)) (pg_tup rfl (pgs_cons (pg_name (i := 5) nd rfl (Or.inl rfl)) (pgs_cons (pg_name (i := 6) nd rfl (Or.inl rfl)) pgs_nil))) (pss_cons (ps_expr (pe_bm PySem.F.plainAttrs_list PySem.F.slot_list_append PySem.F.type_list_append mt_append (pv 4) (pa_cons (pe_op op_add2 pe_str (pv 5)) pa_nil))) (pss_one (ps_for (passes_of rfl) rfl (pi_seq (pv 6)) (pg_tup rfl (pgs_cons (pg_name (i := 7) nd rfl (Or.inl rfl)) (pgs_cons (pg_name (i := 8) nd rfl (Or.inl rfl)) pgs_nil))) (pss_one (ps_expr (pe_bm PySem.F.plainAttrs_list PySem.F.slot_list_append PySem.F.type_list_append mt_append (pv 4) (pa_cons (pe_op op_add2 (pe_op op_add2 (pe_op op_add2 pe_str (pv 7)) pe_str) (pe_callTy call_str_int (by rfl) C.b_str bb_str (pa_cons (pv 8) pa_nil))) pa_nil)))))))) (pss_cons (ps_for (passes_of rfl) rfl (pi_seq (pv 2)) (pg_tup rfl (pgs_cons (pg_name (i := 7) nd rfl (Or.inl rfl)) (pgs_cons (pg_name (i := 9) nd rfl (Or.inl rfl)) (pgs_cons (pg_name (i := 10) nd rfl (Or.inl rfl)) pgs_nil)))) (pss_one (ps_expr (pe_bm PySem.F.plainAttrs_list PySem.F.slot_list_append PySem.F.type_list_append mt_append (pv 4) (pa_cons (pe_op op_add2 (pe_op op_add2 (pe_op op_add2 (pe_op op_add2 (pe_op op_add2 pe_str (pv 7)) pe_str) (pe_callTy call_str_int (by rfl) C.b_str bb_str (pa_cons (pv 9) pa_nil))) pe_str) (pe_callTy call_str_int (by rfl) C.b_str bb_str (pa_cons (pv 10) pa_nil))) pa_nil))))) (pss_cons (ps_for (passes_of rfl) rfl (pi_seq (pv 3)) (pg_tup rfl (pgs_cons (pg_name (i := 7) nd rfl (Or.inl rfl)) (pgs_cons (pg_name (i := 8) nd rfl (Or.inl rfl)) pgs_nil))) (pss_one (ps_expr (pe_bm PySem.F.plainAttrs_list PySem.F.slot_list_append PySem.F.type_list_append mt_append (pv 4) (pa_cons (pe_op op_add2 (pe_op op_add2 (pe_op op_add2 pe_str (pv 7)) pe_str) (pe_callTy call_str_int (by rfl) C.b_str bb_str (pa_cons (pv 8) pa_nil))) pa_nil))))) (pss_one (ps_ret (pv 4)))))))),
    (ds_seq (ds_asg (vs := [1, 2, 3]) (td_var 0) (dg_tup (dgs_cons (dg_name 1) (dgs_cons (dg_name 2) (dgs_cons (dg_name 3) dgs_nil))))) (ds_seq (ds_setO 4 (to_lst ta_nil)) (ds_seq (ds_preK [5, 6, 7, 8] (ds_for (vs := [5, 6]) (di_seq (td_var 1)) (dg_tup (dgs_cons (dg_name 5) (dgs_cons (dg_name 6) dgs_nil))) (ds_kill [5, 6, 7, 8] (ds_seq (ds_append 4 (td_op rd_add (td_str).r (tr_var 5))) (ds_preK [7, 8] (ds_for (vs := [7, 8]) (di_seq (td_var 6)) (dg_tup (dgs_cons (dg_name 7) (dgs_cons (dg_name 8) dgs_nil))) (ds_kill [7, 8] (ds_append 4 (td_op rd_add ((td_op rd_add ((td_op rd_add (td_str).r (tr_var 7))).r (td_str).r)).r ((td_cb rc_str (tq_cons (tr_var 8) tq_nil))).r))))))))) (ds_seq (ds_preK [7, 9, 10] (ds_for (vs := [7, 9, 10]) (di_seq (td_var 2)) (dg_tup (dgs_cons (dg_name 7) (dgs_cons (dg_name 9) (dgs_cons (dg_name 10) dgs_nil)))) (ds_kill [7, 9, 10] (ds_append 4 (td_op rd_add ((td_op rd_add ((td_op rd_add ((td_op rd_add ((td_op rd_add (td_str).r (tr_var 7))).r (td_str).r)).r ((td_cb rc_str (tq_cons (tr_var 9) tq_nil))).r)).r (td_str).r)).r ((td_cb rc_str (tq_cons (tr_var 10) tq_nil))).r))))) (ds_seq (ds_preK [7, 8] (ds_for (vs := [7, 8]) (di_seq (td_var 3)) (dg_tup (dgs_cons (dg_name 7) (dgs_cons (dg_name 8) dgs_nil))) (ds_kill [7, 8] (ds_append 4 (td_op rd_add ((td_op rd_add ((td_op rd_add (td_str).r (tr_var 7))).r (td_str).r)).r ((td_cb rc_str (tq_cons (tr_var 8) tq_nil))).r))))) (ds_retV 4))))))⟩
theorem sc_write_thing : FnScope ["thing"] ["thing"] (defScope s_write_thing) := ⟨rfl, rfl, rfl, by decide +kernel, rfl, by decide +kernel, by decide +kernel⟩
theorem ok_write_thing {P : Program} {w : World} {K : PySem.W.Frag} {mg : Str → Option Value} {base : Heap} (C : Ctx K mg) : Kept P w K mg base 2 1 "write_thing" ["thing"] d_write_thing := by
  obtain ⟨fd_thing_rows, kp_thing_rows, hg_thing_rows, hb_thing_rows, G_thing_rows⟩ := ok_thing_rows (P := P) (w := w) (base := base) C
  have nd := sc_write_thing.nd
  exact kept_of C.F_write_thing C.g_write_thing sc_write_thing rfl rfl (fun _ _ _ _ _ _ us hl => match us, hl with | [_], _ => rfl) (s := S_write_thing) fun cdv A outer sh H E hr tk => ⟨_,
    (pss_one (ps_ret (pe_m1 PySem.F.slot_str_join PySem.F.type_str_join mt_join pe_str (pe_callS G_thing_rows (hr.mono (by decide)) (by rfl) hg_thing_rows kp_thing_rows hb_thing_rows (fun σ => passAt tk σ) (pa_cons (pv 0) pa_nil))))),
    (ds_ret (td_m1 rm_join (td_str).r ((td_call (ta_cons (td_var 0) ta_nil))).r))⟩
theorem sc_law_mix : FnScope ["_law_cell", "_law_k", "_law_factor"] ["_law_cell", "_law_k", "_law_factor"] (defScope s_law_mix) := ⟨rfl, rfl, rfl, by decide +kernel, rfl, by decide +kernel, by decide +kernel⟩
theorem ok_law_mix {P : Program} {w : World} {K : PySem.W.Frag} {mg : Str → Option Value} {base : Heap} (C : Ctx K mg) : Kept P w K mg base 1 3 "_law_mix" ["_law_cell", "_law_k", "_law_factor"] d_law_mix := by
  have nd := sc_law_mix.nd
  exact kept_of C.F_law_mix C.g_law_mix sc_law_mix rfl rfl (fun _ _ _ _ _ _ us hl => match us, hl with | [_, _, _], _ => rfl) (s := S_law_mix) fun cdv A outer sh H E hr tk => ⟨_,
    (pss_one (ps_ret (pe_op op_modN (pe_op op_mul2 (pe_op op_add2 (pe_op op_add2 (pv 0) (pe_op op_mul2 (pv 1) (pv 1))) pe_int) (pv 2)) pe_int))),
    (ds_ret (td_op rd_mod ((td_op rd_mul ((td_op rd_add ((td_op rd_add (tr_var 0) ((td_op rd_mul (tr_var 1) (tr_var 1))).r)).r (td_int).r)).r (tr_var 2))).r (td_int).r))⟩
theorem sc_law_salt : FnScope ["_law_script", "_law_factor", "_law_cell"] ["_law_script", "_law_factor"] (defScope s_law_salt) := ⟨rfl, rfl, rfl, by decide +kernel, rfl, by decide +kernel, by decide +kernel⟩
theorem ok_law_salt {P : Program} {w : World} {K : PySem.W.Frag} {mg : Str → Option Value} {base : Heap} (C : Ctx K mg) : Kept P w K mg base 2 2 "_law_salt" ["_law_script", "_law_factor"] d_law_salt := by
  obtain ⟨fd_law_mix, kp_law_mix, hg_law_mix, hb_law_mix, G_law_mix⟩ := ok_law_mix (P := P) (w := w) (base := base) C
  have nd := sc_law_salt.nd
  exact kept_of C.F_law_salt C.g_law_salt sc_law_salt rfl rfl (fun _ _ _ _ _ _ us hl => match us, hl with | [_, _], _ => rfl) (s := S_law_salt) fun cdv A outer sh H E hr tk => ⟨_,
    (pss_one (ps_ret (pe_callS G_law_mix (hr.mono (by decide)) (by rfl) hg_law_mix kp_law_mix hb_law_mix (fun σ => passAt tk σ) (pa_cons (pe_callB (cr_sum rfl) (by rfl) C.b_sum bb_sum (pa_cons (pe_lc (own := [("_law_cell", 2)]) rfl nd (pi_seq (pe_slice sl_2 (pv 0) po_none (po_some pe_int))) (blkOk_by (by kernel_rfl)) (fun _ _ _ _ _ => (pg_name (i := 2) nd rfl (Or.inl rfl))) (fun _ _ _ _ _ => pts_nil) (fun _ _ _ _ _ => (pe_op op_modN (pv 2) pe_int))) pa_nil)) (pa_cons (pe_op op_modN (pe_callB call_len (by rfl) C.b_len bb_len (pa_cons (pv 0) pa_nil)) pe_int) (pa_cons (pv 1) pa_nil)))))),
    (ds_ret (td_call (ta_cons (td_cb rc_sum (tq_cons (((to_lc (vs := [2]) (di_seq (td_sl (tr_var 0) tp_no (tp_some (td_int).r))) (dg_name 2) tt_yes (td_op rd_mod (tr_var 2) (td_int).r))).e).r tq_nil)) (ta_cons (td_op rd_mod ((td_cb rc_len (tq_cons (tr_var 0) tq_nil))).r (td_int).r) (ta_cons (td_var 1) ta_nil)))))⟩
theorem sc_law_name : FnScope ["_law_k", "_law_salt_here", "_law_some", "_law_turn", "_law_size", "_law_spot", "_law_head"] ["_law_k", "_law_salt_here"] (defScope s_law_name) := ⟨rfl, rfl, rfl, by decide +kernel, rfl, by decide +kernel, by decide +kernel⟩
theorem ok_law_name {P : Program} {w : World} {K : PySem.W.Frag} {mg : Str → Option Value} {base : Heap} (C : Ctx K mg) : Kept P w K mg base 1 2 "_law_name" ["_law_k", "_law_salt_here"] d_law_name := by
  have nd := sc_law_name.nd
  exact kept_of C.F_law_name C.g_law_name sc_law_name rfl rfl (fun _ _ _ _ _ _ us hl => match us, hl with | [_, _], _ => rfl) (s := S_law_name) fun cdv A outer sh H E hr tk => ⟨_,
    (pss_cons (ps_set (i := 2) nd rfl (Or.inl rfl) pe_str) (pss_cons (ps_set (i := 3) nd rfl (Or.inl rfl) (pe_ix ix_seq (pv 2) (pe_op op_modN (pe_op op_add2 (pe_op op_mul2 pe_int (pv 0)) (pe_op op_fdivN (pv 1) pe_int)) pe_int) (fun _ _ => rfl))) (pss_cons (ps_if (pt_cmpR (op_eq2 hr.units) (pe_op op_modN (pv 1) pe_int) pe_int (nomark _)) (pss_one (ps_ret (pv 3))) pss_nil) (pss_cons (ps_if (PW.pt (pw_and (pt_cmpR (op_eq2 hr.units) (pe_op op_modN (pv 1) pe_int) pe_int (nomark _)) (pw_and1 (pt_cmpR op_lt (pv 0) pe_int (nomark _))))) (pss_one (ps_ret (pe_op op_mul2 (pe_ix ix_seq (pv 2) (pe_op op_modN (pe_op op_fdivN (pv 1) pe_int) pe_int) (fun _ _ => rfl)) (pe_op op_add2 pe_int (pe_op op_modN (pe_op op_add2 (pe_op op_mul2 pe_int (pv 0)) (pe_op op_fdivN (pv 1) pe_int)) pe_int))))) pss_nil) (pss_cons (ps_set (i := 4) nd rfl (Or.inl rfl) (pe_op op_add2 pe_int (pe_op op_modN (pe_op op_fdivN (pv 1) pe_int) pe_int))) (pss_cons (ps_set (i := 5) nd rfl (Or.inl rfl) (pe_op op_modN (pe_op op_fdivN (pv 1) pe_int) (pe_op op_sub (pv 4) pe_int))) (pss_cons (ps_set (i := 6) nd rfl (Or.inl rfl) (pe_op op_mul2 (pe_ix ix_seq (pv 2) (pe_op op_modN (pe_op op_fdivN (pv 1) pe_int) pe_int) (fun _ _ => rfl)) (pv 5))) (pss_one (ps_ret (pe_op op_add2 (pe_op op_add2 (pe_op op_add2 (pv 6) (pv 3)) pe_str) (pe_op op_mul2 (pe_ix ix_seq (pv 2) (pe_op op_modN (pe_op op_fdivN (pv 1) pe_int) pe_int) (fun _ _ => rfl)) (pe_op op_sub (pe_op op_sub (pv 4) (pv 5)) pe_int)))))))))))),
    (ds_seq (ds_set 2 td_str) (ds_seq (ds_set 3 (td_op rd_ix (tr_var 2) ((td_op rd_mod ((td_op rd_add ((td_op rd_mul (td_int).r (tr_var 0))).r ((td_op rd_div (tr_var 1) (td_int).r)).r)).r (td_int).r)).r)) (ds_seq (ds_if (tt_test ((td_op rd_eq ((td_op rd_mod (tr_var 1) (td_int).r)).r (td_int).r)).r) (ds_retV 3) ds_next) (ds_seq (ds_if (tt_and (tt_test ((td_op rd_eq ((td_op rd_mod (tr_var 1) (td_int).r)).r (td_int).r)).r) (tt_test ((td_op rd_cmp (tr_var 0) (td_int).r)).r)) (ds_ret (td_op rd_mul ((td_op rd_ix (tr_var 2) ((td_op rd_mod ((td_op rd_div (tr_var 1) (td_int).r)).r (td_int).r)).r)).r ((td_op rd_add (td_int).r ((td_op rd_mod ((td_op rd_add ((td_op rd_mul (td_int).r (tr_var 0))).r ((td_op rd_div (tr_var 1) (td_int).r)).r)).r (td_int).r)).r)).r)) ds_next) (ds_seq (ds_set 4 (td_op rd_add (td_int).r ((td_op rd_mod ((td_op rd_div (tr_var 1) (td_int).r)).r (td_int).r)).r)) (ds_seq (ds_set 5 (td_op rd_mod ((td_op rd_div (tr_var 1) (td_int).r)).r ((td_op rd_sub (tr_var 4) (td_int).r)).r)) (ds_seq (ds_set 6 (td_op rd_mul ((td_op rd_ix (tr_var 2) ((td_op rd_mod ((td_op rd_div (tr_var 1) (td_int).r)).r (td_int).r)).r)).r (tr_var 5))) (ds_ret (td_op rd_add ((td_op rd_add ((td_op rd_add (tr_var 6) (tr_var 3))).r (td_str).r)).r ((td_op rd_mul ((td_op rd_ix (tr_var 2) ((td_op rd_mod ((td_op rd_div (tr_var 1) (td_int).r)).r (td_int).r)).r)).r ((td_op rd_sub ((td_op rd_sub (tr_var 4) (tr_var 5))).r (td_int).r)).r)).r)))))))))⟩
theorem sc_law_kinds : FnScope ["_law_cells", "_law_salt_here", "_law_kinds_here", "_law_k", "_law_m", "_law_upper"] ["_law_cells", "_law_salt_here"] (defScope s_law_kinds) := ⟨rfl, rfl, rfl, by decide +kernel, rfl, by decide +kernel, by decide +kernel⟩
theorem ok_law_kinds {P : Program} {w : World} {K : PySem.W.Frag} {mg : Str → Option Value} {base : Heap} (C : Ctx K mg) : Kept P w K mg base 2 2 "_law_kinds" ["_law_cells", "_law_salt_here"] d_law_kinds := by
  obtain ⟨fd_law_mix, kp_law_mix, hg_law_mix, hb_law_mix, G_law_mix⟩ := ok_law_mix (P := P) (w := w) (base := base) C
  obtain ⟨fd_law_name, kp_law_name, hg_law_name, hb_law_name, G_law_name⟩ := ok_law_name (P := P) (w := w) (base := base) C
  have nd := sc_law_kinds.nd
  exact kept_of C.F_law_kinds C.g_law_kinds sc_law_kinds rfl rfl (fun _ _ _ _ _ _ us hl => match us, hl with | [_, _], _ => rfl) (s := S_law_kinds) fun cdv A outer sh H E hr tk => ⟨_,
    (pss_cons (ps_set (i := 2) nd rfl (Or.inl rfl) (pe_lst pa_nil)) (pss_cons (ps_for (passes_of rfl) rfl (pi_range1 rfl C.b_range (pa_cons (pe_callB call_len (by rfl) C.b_len bb_len (pa_cons (pv 0) pa_nil)) pa_nil)) (pg_name (i := 3) nd rfl (Or.inl rfl)) (pss_cons (ps_set (i := 4) nd rfl (Or.inl rfl) (pe_callS G_law_mix (hr.mono (by decide)) (by rfl) hg_law_mix kp_law_mix hb_law_mix (fun σ => passAt tk σ) (pa_cons (pe_ix ix_seq (pv 0) (pv 3) (fun _ _ => rfl)) (pa_cons (pv 3) (pa_cons pe_int pa_nil))))) (pss_cons (ps_set (i := 5) nd rfl (Or.inl rfl) pe_str) (pss_cons (ps_if (PW.pt (pw_and (pt_cmpR op_gt (pv 3) pe_int (nomark _)) (pw_and1 (pt_cmpR op_gt (pe_op op_modN (pv 4) pe_int) pe_int (nomark _))))) (pss_one (ps_set (i := 5) nd rfl (Or.inl rfl) (pe_ix ix_seq (pe_ix ix_seq (pv 2) (pe_op op_modN (pe_op op_fdivN (pv 4) pe_int) (pv 3)) (fun _ _ => rfl)) pe_int (fun _ _ => rfl)))) pss_nil) (pss_one (ps_expr (pe_bm PySem.F.plainAttrs_list PySem.F.slot_list_append PySem.F.type_list_append mt_append (pv 2) (pa_cons (pe_tup (pa_cons (pe_callS G_law_name (hr.mono (by decide)) (by rfl) hg_law_name kp_law_name hb_law_name (fun σ => passAt tk σ) (pa_cons (pv 3) (pa_cons (pv 1) pa_nil))) (pa_cons (pv 5) pa_nil))) pa_nil)))))))) (pss_one (ps_ret (pv 2))))),
    (ds_seq (ds_setO 2 (to_lst ta_nil)) (ds_seq (ds_preK [3, 4, 5] (ds_for (vs := [3]) (di_rng1 (tq_cons ((td_cb rc_len (tq_cons (tr_var 0) tq_nil))).r tq_nil)) (dg_name 3) (ds_kill [3, 4, 5] (ds_seq (ds_set 4 (td_call (ta_cons (td_op rd_ix (tr_var 0) (tr_var 3)) (ta_cons (td_var 3) (ta_cons td_int ta_nil))))) (ds_seq (ds_set 5 td_str) (ds_seq (ds_if (tt_and (tt_test ((td_op rd_cmp (tr_var 3) (td_int).r)).r) (tt_test ((td_op rd_cmp ((td_op rd_mod (tr_var 4) (td_int).r)).r (td_int).r)).r)) (ds_set 5 (td_op rd_ix ((td_op rd_ix (tr_var 2) ((td_op rd_mod ((td_op rd_div (tr_var 4) (td_int).r)).r (tr_var 3))).r)).r (td_int).r)) ds_next) (ds_append 2 (td_tup (ta_cons (td_call (ta_cons (td_var 3) (ta_cons (td_var 1) ta_nil))) (ta_cons (td_var 5) ta_nil)))))))))) (ds_retV 2)))⟩
theorem sc_law_text : FnScope ["_law_rows", "_law_salt_here", "_law_lines", "_law_k", "_law_m", "_law_line", "_law_word"] ["_law_rows", "_law_salt_here"] (defScope s_law_text) := ⟨rfl, rfl, rfl, by decide +kernel, rfl, by decide +kernel, by decide +kernel⟩
theorem ok_law_text {P : Program} {w : World} {K : PySem.W.Frag} {mg : Str → Option Value} {base : Heap} (C : Ctx K mg) : Kept P w K mg base 2 2 "_law_text" ["_law_rows", "_law_salt_here"] d_law_text := by
  obtain ⟨fd_law_mix, kp_law_mix, hg_law_mix, hb_law_mix, G_law_mix⟩ := ok_law_mix (P := P) (w := w) (base := base) C
  have nd := sc_law_text.nd
  exact kept_of C.F_law_text C.g_law_text sc_law_text rfl rfl (fun _ _ _ _ _ _ us hl => match us, hl with | [_, _], _ => rfl) (s := S_law_text) fun cdv A outer sh H E hr tk => ⟨_,
    (pss_cons (ps_set (i := 2) nd rfl (Or.inl rfl) (pe_lst pa_nil)) (pss_cons (ps_for (passes_of rfl) rfl (pi_range1 rfl C.b_range (pa_cons (pe_callB call_len (by rfl) C.b_len bb_len (pa_cons (pv 0) pa_nil)) pa_nil)) (pg_name (i := 3) nd rfl (Or.inl rfl)) (pss_cons (ps_set (i := 4) nd rfl (Or.inl rfl) (pe_callS G_law_mix (hr.mono (by decide)) (by rfl) hg_law_mix kp_law_mix hb_law_mix (fun σ => passAt tk σ) (pa_cons (pv 1) (pa_cons (pv 3) (pa_cons pe_int pa_nil))))) (pss_cons (ps_set (i := 5) nd rfl (Or.inl rfl) (pe_op op_mul2 pe_str (pe_op op_modN (pv 4) pe_int))) (pss_cons (ps_for (passes_of rfl) rfl (pi_seq (pe_ix ix_seq (pv 0) (pv 3) (fun _ _ => rfl))) (pg_name (i := 6) nd rfl (Or.inl rfl)) (pss_cons (ps_set (i := 5) nd rfl (Or.inl rfl) (pe_op op_add2 (pe_op op_add2 (pv 5) (pv 6)) (pe_op op_mul2 pe_str (pe_op op_add2 pe_int (pe_op op_modN (pe_op op_fdivN (pv 4) pe_int) pe_int))))) (pss_one (ps_set (i := 4) nd rfl (Or.inl rfl) (pe_op op_fdivN (pv 4) pe_int))))) (pss_cons (ps_expr (pe_bm PySem.F.plainAttrs_list PySem.F.slot_list_append PySem.F.type_list_append mt_append (pv 2) (pa_cons (pv 5) pa_nil))) (pss_one (ps_if (pt_cmpR (op_eq2 hr.units) (pe_op op_modN (pv 4) pe_int) pe_int (nomark _)) (pss_one (ps_expr (pe_bm PySem.F.plainAttrs_list PySem.F.slot_list_append PySem.F.type_list_append mt_append (pv 2) (pa_cons (pe_op op_mul2 pe_str (pe_op op_modN (pe_op op_fdivN (pv 4) pe_int) pe_int)) pa_nil)))) pss_nil))))))) (pss_cons (ps_if (pt_cmpR (op_eq2 hr.units) (pe_op op_modN (pe_op op_fdivN (pv 1) pe_int) pe_int) pe_int (nomark _)) (pss_one (ps_expr (pe_bm PySem.F.plainAttrs_list PySem.F.slot_list_insert PySem.F.type_list_insert mt_insert (pv 2) (pa_cons pe_int (pa_cons pe_str pa_nil))))) pss_nil) (pss_one (ps_ret (pe_m1 PySem.F.slot_str_join PySem.F.type_str_join mt_join pe_str (pv 2))))))),
    (ds_seq (ds_setO 2 (to_lst ta_nil)) (ds_seq (ds_preK [3, 4, 5, 6] (ds_for (vs := [3]) (di_rng1 (tq_cons ((td_cb rc_len (tq_cons (tr_var 0) tq_nil))).r tq_nil)) (dg_name 3) (ds_kill [3, 4, 5, 6] (ds_seq (ds_set 4 (td_call (ta_cons (td_var 1) (ta_cons (td_var 3) (ta_cons td_int ta_nil))))) (ds_seq (ds_set 5 (td_op rd_mul (td_str).r ((td_op rd_mod (tr_var 4) (td_int).r)).r)) (ds_seq (ds_preK [6] (ds_for (vs := [6]) (di_seq (td_op rd_ix (tr_var 0) (tr_var 3))) (dg_name 6) (ds_kill [6] (ds_seq (ds_set 5 (td_op rd_add ((td_op rd_add (tr_var 5) (tr_var 6))).r ((td_op rd_mul (td_str).r ((td_op rd_add (td_int).r ((td_op rd_mod ((td_op rd_div (tr_var 4) (td_int).r)).r (td_int).r)).r)).r)).r)) (ds_set 4 (td_op rd_div (tr_var 4) (td_int).r)))))) (ds_seq (ds_append 2 (td_var 5)) (ds_if (tt_test ((td_op rd_eq ((td_op rd_mod (tr_var 4) (td_int).r)).r (td_int).r)).r) (ds_append 2 (td_op rd_mul (td_str).r ((td_op rd_mod ((td_op rd_div (tr_var 4) (td_int).r)).r (td_int).r)).r)) ds_next)))))))) (ds_seq (ds_if (tt_test ((td_op rd_eq ((td_op rd_mod ((td_op rd_div (tr_var 1) (td_int).r)).r (td_int).r)).r (td_int).r)).r) (ds_insertD 2 td_int td_str) ds_next) (ds_ret (td_m1 rm_join (td_str).r (tr_var 2))))))⟩
theorem sc_law_number : FnScope ["_law_m", "_law_number_here"] ["_law_m"] (defScope s_law_number) := ⟨rfl, rfl, rfl, by decide +kernel, rfl, by decide +kernel, by decide +kernel⟩
theorem ok_law_number {P : Program} {w : World} {K : PySem.W.Frag} {mg : Str → Option Value} {base : Heap} (C : Ctx K mg) : Kept P w K mg base 1 1 "_law_number" ["_law_m"] d_law_number := by
  have nd := sc_law_number.nd
  exact kept_of C.F_law_number C.g_law_number sc_law_number rfl rfl (fun _ _ _ _ _ _ us hl => match us, hl with | [_], _ => rfl) (s := S_law_number) fun cdv A outer sh H E hr tk => ⟨_,
    (pss_cons (ps_set (i := 1) nd rfl (Or.inl rfl) (pe_op op_sub (pe_op op_modN (pe_op op_fdivN (pv 0) pe_int) pe_int) pe_int)) (pss_cons (ps_if (pt_cmpR (op_eq2 hr.units) (pe_op op_modN (pv 0) pe_int) pe_int (nomark _)) (pss_one (ps_set (i := 1) nd rfl (Or.inl rfl) (pe_op op_modN (pe_op op_mul2 (pv 0) pe_int) (pe_op op_pow pe_int pe_int)))) pss_nil) (pss_cons (ps_if (pt_cmpR (op_eq2 hr.units) (pe_op op_modN (pv 0) pe_int) pe_int (nomark _)) (pss_one (ps_set (i := 1) nd rfl (Or.inl rfl) (pe_un un_neg (pe_op op_modN (pe_op op_mul2 (pv 0) pe_int) (pe_op op_pow pe_int pe_int))))) pss_nil) (pss_one (ps_ret (pv 1)))))),
    (ds_seq (ds_set 1 (td_op rd_sub ((td_op rd_mod ((td_op rd_div (tr_var 0) (td_int).r)).r (td_int).r)).r (td_int).r)) (ds_seq (ds_if (tt_test ((td_op rd_eq ((td_op rd_mod (tr_var 0) (td_int).r)).r (td_int).r)).r) (ds_set 1 (td_op rd_mod ((td_op rd_mul (tr_var 0) (td_int).r)).r ((td_op rd_pow (td_int).r (td_int).r)).r)) ds_next) (ds_seq (ds_if (tt_test ((td_op rd_eq ((td_op rd_mod (tr_var 0) (td_int).r)).r (td_int).r)).r) (ds_set 1 (td_un ru_neg ((td_op rd_mod ((td_op rd_mul (tr_var 0) (td_int).r)).r ((td_op rd_pow (td_int).r (td_int).r)).r)).r)) ds_next) (ds_retV 1))))⟩
theorem sc_law_parts : FnScope ["_law_kinds_here", "_law_cells", "_law_salt_here", "_law_parts_here", "_law_k", "_law_m", "_law_sizes", "_law_turn"] ["_law_kinds_here", "_law_cells", "_law_salt_here"] (defScope s_law_parts) := ⟨rfl, rfl, rfl, by decide +kernel, rfl, by decide +kernel, by decide +kernel⟩
theorem ok_law_parts {P : Program} {w : World} {K : PySem.W.Frag} {mg : Str → Option Value} {base : Heap} (C : Ctx K mg) : Kept P w K mg base 2 3 "_law_parts" ["_law_kinds_here", "_law_cells", "_law_salt_here"] d_law_parts := by
  obtain ⟨fd_law_mix, kp_law_mix, hg_law_mix, hb_law_mix, G_law_mix⟩ := ok_law_mix (P := P) (w := w) (base := base) C
  obtain ⟨fd_law_name, kp_law_name, hg_law_name, hb_law_name, G_law_name⟩ := ok_law_name (P := P) (w := w) (base := base) C
  obtain ⟨fd_law_number, kp_law_number, hg_law_number, hb_law_number, G_law_number⟩ := ok_law_number (P := P) (w := w) (base := base) C
  have nd := sc_law_parts.nd
  exact kept_of C.F_law_parts C.g_law_parts sc_law_parts rfl rfl (fun _ _ _ _ _ _ us hl => match us, hl with | [_, _, _], _ => rfl) (s := S_law_parts) fun cdv A outer sh H E hr tk => ⟨_,
    (pss_cons (ps_set (i := 3) nd rfl (Or.inl rfl) (pe_lst pa_nil)) (pss_cons (ps_for (passes_of rfl) rfl (pi_range1 rfl C.b_range (pa_cons (pe_callB call_len (by rfl) C.b_len bb_len (pa_cons (pv 1) pa_nil)) pa_nil)) (pg_name (i := 4) nd rfl (Or.inl rfl)) (pss_cons (ps_set (i := 5) nd rfl (Or.inl rfl) (pe_callS G_law_mix (hr.mono (by decide)) (by rfl) hg_law_mix kp_law_mix hb_law_mix (fun σ => passAt tk σ) (pa_cons (pe_ix ix_seq (pv 1) (pv 4) (fun _ _ => rfl)) (pa_cons (pv 4) (pa_cons pe_int pa_nil))))) (pss_cons (ps_set (i := 6) nd rfl (Or.inl rfl) pe_dnewK) (pss_cons (ps_for (passes_of rfl) rfl (pi_range1 rfl C.b_range (pa_cons (pe_op op_modN (pv 5) pe_int) pa_nil)) (pg_name (i := 7) nd rfl (Or.inl rfl)) (pss_one (ps_dput (hu_of hr) (pv 6) (pe_callS G_law_name (hr.mono (by decide)) (by rfl) hg_law_name kp_law_name hb_law_name (fun σ => passAt tk σ) (pa_cons (pe_op op_add2 pe_int (pe_op op_modN (pe_op op_add2 (pe_op op_fdivN (pv 5) pe_int) (pe_op op_mul2 (pv 7) (pe_op op_add2 pe_int (pe_op op_modN (pe_op op_fdivN (pv 5) pe_int) pe_int)))) pe_int)) (pa_cons (pe_op op_fdivN (pv 2) pe_int) pa_nil))) (pe_callS G_law_number (hr.mono (by decide)) (by rfl) hg_law_number kp_law_number hb_law_number (fun σ => passAt tk σ) (pa_cons (pe_op op_fdivN (pv 5) (pe_op op_add2 pe_int (pv 7))) pa_nil)) rfl))) (pss_one (ps_expr (pe_bm PySem.F.plainAttrs_list PySem.F.slot_list_append PySem.F.type_list_append mt_append (pv 3) (pa_cons (pe_tup (pa_cons (pe_ix ix_seq (pe_ix ix_seq (pv 0) (pe_op op_modN (pe_op op_fdivN (pv 5) pe_int) (pe_callB call_len (by rfl) C.b_len bb_len (pa_cons (pv 0) pa_nil))) (fun _ _ => rfl)) pe_int (fun _ _ => rfl)) (pa_cons (pv 6) pa_nil))) pa_nil)))))))) (pss_one (ps_ret (pv 3))))),
    (ds_seq (ds_setO 3 (to_lst ta_nil)) (ds_seq (ds_preK [4, 5, 6, 7] (ds_for (vs := [4]) (di_rng1 (tq_cons ((td_cb rc_len (tq_cons (tr_var 1) tq_nil))).r tq_nil)) (dg_name 4) (ds_kill [4, 5, 6, 7] (ds_seq (ds_set 5 (td_call (ta_cons (td_op rd_ix (tr_var 1) (tr_var 4)) (ta_cons (td_var 4) (ta_cons td_int ta_nil))))) (ds_seq (ds_setO 6 to_dnewK) (ds_seq (ds_preK [7] (ds_for (vs := [7]) (di_rng1 (tq_cons ((td_op rd_mod (tr_var 5) (td_int).r)).r tq_nil)) (dg_name 7) (ds_kill [7] (ds_dput 6 ((td_call (ta_cons (td_op rd_add (td_int).r ((td_op rd_mod ((td_op rd_add ((td_op rd_div (tr_var 5) (td_int).r)).r ((td_op rd_mul (tr_var 7) ((td_op rd_add (td_int).r ((td_op rd_mod ((td_op rd_div (tr_var 5) (td_int).r)).r (td_int).r)).r)).r)).r)).r (td_int).r)).r) (ta_cons (td_op rd_div (tr_var 2) (td_int).r) ta_nil)))).r (td_call (ta_cons (td_op rd_div (tr_var 5) ((td_op rd_add (td_int).r (tr_var 7))).r) ta_nil)))))) (ds_frz [6] (ds_append 3 (td_tup (ta_cons (td_op rd_ix ((td_op rd_ix (tr_var 0) ((td_op rd_mod ((td_op rd_div (tr_var 5) (td_int).r)).r ((td_cb rc_len (tq_cons (tr_var 0) tq_nil))).r)).r)).r (td_int).r) (ta_cons (td_var 6) ta_nil))))))))))) (ds_retV 3)))⟩
theorem sc_law_joins : FnScope ["_law_many", "_law_cells", "_law_salt_here", "_law_joins_here", "_law_k", "_law_m", "_law_i", "_law_j", "_law_one"] ["_law_many", "_law_cells", "_law_salt_here"] (defScope s_law_joins) := ⟨rfl, rfl, rfl, by decide +kernel, rfl, by decide +kernel, by decide +kernel⟩
theorem ok_law_joins {P : Program} {w : World} {K : PySem.W.Frag} {mg : Str → Option Value} {base : Heap} (C : Ctx K mg) : Kept P w K mg base 2 3 "_law_joins" ["_law_many", "_law_cells", "_law_salt_here"] d_law_joins := by
  obtain ⟨fd_law_mix, kp_law_mix, hg_law_mix, hb_law_mix, G_law_mix⟩ := ok_law_mix (P := P) (w := w) (base := base) C
  obtain ⟨fd_law_name, kp_law_name, hg_law_name, hb_law_name, G_law_name⟩ := ok_law_name (P := P) (w := w) (base := base) C
  have nd := sc_law_joins.nd
  exact kept_of C.F_law_joins C.g_law_joins sc_law_joins rfl rfl (fun _ _ _ _ _ _ us hl => match us, hl with | [_, _, _], _ => rfl) (s := S_law_joins) fun cdv A outer sh H E hr tk => ⟨_,
    (pss_cons (ps_set (i := 3) nd rfl (Or.inl rfl) (pe_lst pa_nil)) (pss_cons (ps_for (passes_of rfl) rfl (pi_range1 rfl C.b_range (pa_cons (pe_callB call_len (by rfl) C.b_len bb_len (pa_cons (pv 1) pa_nil)) pa_nil)) (pg_name (i := 4) nd rfl (Or.inl rfl)) (pss_cons (ps_set (i := 5) nd rfl (Or.inl rfl) (pe_callS G_law_mix (hr.mono (by decide)) (by rfl) hg_law_mix kp_law_mix hb_law_mix (fun σ => passAt tk σ) (pa_cons (pe_ix ix_seq (pv 1) (pv 4) (fun _ _ => rfl)) (pa_cons (pv 4) (pa_cons pe_int pa_nil))))) (pss_cons (ps_set (i := 6) nd rfl (Or.inl rfl) (pe_op op_modN (pv 5) (pe_callB (call_max2 rfl) (by rfl) C.b_max bb_max (pa_cons pe_int (pa_cons (pv 0) pa_nil))))) (pss_cons (ps_set (i := 7) nd rfl (Or.inl rfl) (pe_op op_modN (pe_op op_add2 (pe_op op_add2 (pv 6) pe_int) (pe_op op_modN (pe_op op_fdivN (pv 5) pe_int) (pe_callB (call_max2 rfl) (by rfl) C.b_max bb_max (pa_cons pe_int (pa_cons (pe_op op_sub (pv 0) pe_int) pa_nil))))) (pe_callB (call_max2 rfl) (by rfl) C.b_max bb_max (pa_cons pe_int (pa_cons (pv 0) pa_nil))))) (pss_cons (ps_set (i := 8) nd rfl (Or.inl rfl) (pe_tup (pa_cons (pe_callS G_law_name (hr.mono (by decide)) (by rfl) hg_law_name kp_law_name hb_law_name (fun σ => passAt tk σ) (pa_cons (pe_op op_modN (pe_op op_fdivN (pv 5) pe_int) pe_int) (pa_cons (pe_op op_fdivN (pv 2) pe_int) pa_nil))) (pa_cons (pv 6) (pa_cons (pv 7) pa_nil))))) (pss_one (ps_if (PW.pt (pw_and (pt_cmpR op_gt (pv 0) pe_int (nomark _)) (pw_and1 (pt_cmpR (op_nin2 (hu65 hr)) (pv 8) (pv 3) (by rfl))))) (pss_one (ps_expr (pe_bm PySem.F.plainAttrs_list PySem.F.slot_list_append PySem.F.type_list_append mt_append (pv 3) (pa_cons (pv 8) pa_nil)))) pss_nil))))))) (pss_one (ps_ret (pv 3))))),
    (ds_seq (ds_setO 3 (to_lst ta_nil)) (ds_seq (ds_preK [4, 5, 6, 7, 8] (ds_for (vs := [4]) (di_rng1 (tq_cons ((td_cb rc_len (tq_cons (tr_var 1) tq_nil))).r tq_nil)) (dg_name 4) (ds_kill [4, 5, 6, 7, 8] (ds_seq (ds_set 5 (td_call (ta_cons (td_op rd_ix (tr_var 1) (tr_var 4)) (ta_cons (td_var 4) (ta_cons td_int ta_nil))))) (ds_seq (ds_set 6 (td_op rd_mod (tr_var 5) ((td_cb rc_max2 (tq_cons (td_int).r (tq_cons (tr_var 0) tq_nil)))).r)) (ds_seq (ds_set 7 (td_op rd_mod ((td_op rd_add ((td_op rd_add (tr_var 6) (td_int).r)).r ((td_op rd_mod ((td_op rd_div (tr_var 5) (td_int).r)).r ((td_cb rc_max2 (tq_cons (td_int).r (tq_cons ((td_op rd_sub (tr_var 0) (td_int).r)).r tq_nil)))).r)).r)).r ((td_cb rc_max2 (tq_cons (td_int).r (tq_cons (tr_var 0) tq_nil)))).r)) (ds_seq (ds_set 8 (td_tup (ta_cons (td_call (ta_cons (td_op rd_mod ((td_op rd_div (tr_var 5) (td_int).r)).r (td_int).r) (ta_cons (td_op rd_div (tr_var 2) (td_int).r) ta_nil))) (ta_cons (td_var 6) (ta_cons (td_var 7) ta_nil))))) (ds_if (tt_and (tt_test ((td_op rd_cmp (tr_var 0) (td_int).r)).r) (tt_test ((td_op rd_nin (tr_var 8) (tr_var 3))).r)) (ds_append 3 (td_var 8)) ds_next)))))))) (ds_retV 3)))⟩
theorem sc_law_steps : FnScope ["_law_many", "_law_cells", "_law_salt_here", "_law_steps_here", "_law_k", "_law_m"] ["_law_many", "_law_cells", "_law_salt_here"] (defScope s_law_steps) := ⟨rfl, rfl, rfl, by decide +kernel, rfl, by decide +kernel, by decide +kernel⟩
theorem ok_law_steps {P : Program} {w : World} {K : PySem.W.Frag} {mg : Str → Option Value} {base : Heap} (C : Ctx K mg) : Kept P w K mg base 2 3 "_law_steps" ["_law_many", "_law_cells", "_law_salt_here"] d_law_steps := by
  obtain ⟨fd_law_mix, kp_law_mix, hg_law_mix, hb_law_mix, G_law_mix⟩ := ok_law_mix (P := P) (w := w) (base := base) C
  obtain ⟨fd_law_name, kp_law_name, hg_law_name, hb_law_name, G_law_name⟩ := ok_law_name (P := P) (w := w) (base := base) C
  have nd := sc_law_steps.nd
  exact kept_of C.F_law_steps C.g_law_steps sc_law_steps rfl rfl (fun _ _ _ _ _ _ us hl => match us, hl with | [_, _, _], _ => rfl) (s := S_law_steps) fun cdv A outer sh H E hr tk => ⟨_,
    (pss_cons (ps_set (i := 3) nd rfl (Or.inl rfl) (pe_lst pa_nil)) (pss_cons (ps_for (passes_of rfl) rfl (pi_range1 rfl C.b_range (pa_cons (pe_callB call_len (by rfl) C.b_len bb_len (pa_cons (pv 1) pa_nil)) pa_nil)) (pg_name (i := 4) nd rfl (Or.inl rfl)) (pss_cons (ps_set (i := 5) nd rfl (Or.inl rfl) (pe_callS G_law_mix (hr.mono (by decide)) (by rfl) hg_law_mix kp_law_mix hb_law_mix (fun σ => passAt tk σ) (pa_cons (pe_ix ix_seq (pv 1) (pv 4) (fun _ _ => rfl)) (pa_cons (pv 4) (pa_cons pe_int pa_nil))))) (pss_one (ps_if (pt_cmpR op_gt (pv 0) pe_int (nomark _)) (pss_one (ps_expr (pe_bm PySem.F.plainAttrs_list PySem.F.slot_list_append PySem.F.type_list_append mt_append (pv 3) (pa_cons (pe_tup (pa_cons (pe_callS G_law_name (hr.mono (by decide)) (by rfl) hg_law_name kp_law_name hb_law_name (fun σ => passAt tk σ) (pa_cons (pe_op op_modN (pe_op op_fdivN (pv 5) pe_int) pe_int) (pa_cons (pe_op op_fdivN (pv 2) pe_int) pa_nil))) (pa_cons (pe_op op_modN (pv 5) (pv 0)) pa_nil))) pa_nil)))) pss_nil)))) (pss_one (ps_ret (pv 3))))),
    (ds_seq (ds_setO 3 (to_lst ta_nil)) (ds_seq (ds_preK [4, 5] (ds_for (vs := [4]) (di_rng1 (tq_cons ((td_cb rc_len (tq_cons (tr_var 1) tq_nil))).r tq_nil)) (dg_name 4) (ds_kill [4, 5] (ds_seq (ds_set 5 (td_call (ta_cons (td_op rd_ix (tr_var 1) (tr_var 4)) (ta_cons (td_var 4) (ta_cons td_int ta_nil))))) (ds_if (tt_test ((td_op rd_cmp (tr_var 0) (td_int).r)).r) (ds_append 3 (td_tup (ta_cons (td_call (ta_cons (td_op rd_mod ((td_op rd_div (tr_var 5) (td_int).r)).r (td_int).r) (ta_cons (td_op rd_div (tr_var 2) (td_int).r) ta_nil))) (ta_cons (td_op rd_mod (tr_var 5) (tr_var 0)) ta_nil)))) ds_next))))) (ds_retV 3)))⟩
theorem sc_law_thing_rows : FnScope ["_law_parts_here", "_law_joins_here", "_law_steps_here", "_law_rows", "_law_kind", "_law_sizes", "_law_word", "_law_i", "_law_j"] ["_law_parts_here", "_law_joins_here", "_law_steps_here"] (defScope s_law_thing_rows) := ⟨rfl, rfl, rfl, by decide +kernel, rfl, by decide +kernel, by decide +kernel⟩
theorem ok_law_thing_rows {P : Program} {w : World} {K : PySem.W.Frag} {mg : Str → Option Value} {base : Heap} (C : Ctx K mg) : Kept P w K mg base 1 3 "_law_thing_rows" ["_law_parts_here", "_law_joins_here", "_law_steps_here"] d_law_thing_rows := by
  have nd := sc_law_thing_rows.nd
  exact kept_of C.F_law_thing_rows C.g_law_thing_rows sc_law_thing_rows rfl rfl (fun _ _ _ _ _ _ us hl => match us, hl with | [_, _, _], _ => rfl) (s := S_law_thing_rows) fun cdv A outer sh H E hr tk => ⟨_,
    (pss_cons (ps_set (i := 3) nd rfl (Or.inl rfl) (pe_lst pa_nil)) (pss_cons (ps_for (passes_of rfl) rfl (pi_seq (pv 0)) (pg_tup rfl (pgs_cons (pg_name (i := 4) nd rfl (Or.inl rfl)) (pgs_cons (pg_name (i := 5) nd rfl (Or.inl rfl)) pgs_nil))) (pss_cons (ps_expr (pe_bm PySem.F.plainAttrs_list PySem.F.slot_list_append PySem.F.type_list_append mt_append (pv 3) (pa_cons (pe_lst (pa_cons pe_str (pa_cons (pv 4) pa_nil))) pa_nil))) (pss_one (ps_lock (ps_for (passes_of rfl) rfl (pi_keys (pv 5)) (pg_name (i := 6) nd rfl (Or.inl rfl)) (pss_one (ps_expr (pe_bm PySem.F.plainAttrs_list PySem.F.slot_list_append PySem.F.type_list_append mt_append (pv 3) (pa_cons (pe_lst (pa_cons pe_str (pa_cons (pv 6) (pa_cons (pe_callTy call_str_int (by rfl) C.b_str bb_str (pa_cons (pe_dget (hu_of hr) (pv 5) (pv 6) (fun _ _ => rfl)) pa_nil)) pa_nil)))) pa_nil))))))))) (pss_cons (ps_for (passes_of rfl) rfl (pi_seq (pv 1)) (pg_tup rfl (pgs_cons (pg_name (i := 6) nd rfl (Or.inl rfl)) (pgs_cons (pg_name (i := 7) nd rfl (Or.inl rfl)) (pgs_cons (pg_name (i := 8) nd rfl (Or.inl rfl)) pgs_nil)))) (pss_one (ps_expr (pe_bm PySem.F.plainAttrs_list PySem.F.slot_list_append PySem.F.type_list_append mt_append (pv 3) (pa_cons (pe_lst (pa_cons pe_str (pa_cons (pv 6) (pa_cons (pe_callTy call_str_int (by rfl) C.b_str bb_str (pa_cons (pv 7) pa_nil)) (pa_cons (pe_callTy call_str_int (by rfl) C.b_str bb_str (pa_cons (pv 8) pa_nil)) pa_nil))))) pa_nil))))) (pss_cons (ps_for (passes_of rfl) rfl (pi_seq (pv 2)) (pg_tup rfl (pgs_cons (pg_name (i := 6) nd rfl (Or.inl rfl)) (pgs_cons (pg_name (i := 7) nd rfl (Or.inl rfl)) pgs_nil))) (pss_one (ps_expr (pe_bm PySem.F.plainAttrs_list PySem.F.slot_list_append PySem.F.type_list_append mt_append (pv 3) (pa_cons (pe_lst (pa_cons pe_str (pa_cons (pv 6) (pa_cons (pe_callTy call_str_int (by rfl) C.b_str bb_str (pa_cons (pv 7) pa_nil)) pa_nil)))) pa_nil))))) (pss_one (ps_ret (pv 3))))))),
    (ds_seq (ds_setO 3 (to_lst ta_nil)) (ds_seq (ds_preK [4, 5, 6] (ds_for (vs := [4, 5]) (di_seq (td_var 0)) (dg_tup (dgs_cons (dg_name 4) (dgs_cons (dg_name 5) dgs_nil))) (ds_kill [4, 5, 6] (ds_seq (ds_append 3 ((to_lst (ta_cons td_str (ta_cons (td_var 4) ta_nil)))).e) (ds_lockV 5 (ds_preK [6] (ds_for (vs := [6]) (di_keys 5) (dg_name 6) (ds_kill [6] (ds_append 3 ((to_lst (ta_cons td_str (ta_cons (td_var 6) (ta_cons (td_cb rc_str (tq_cons ((td_dget 5 (tr_var 6))).r tq_nil)) ta_nil))))).e))))))))) (ds_seq (ds_preK [6, 7, 8] (ds_for (vs := [6, 7, 8]) (di_seq (td_var 1)) (dg_tup (dgs_cons (dg_name 6) (dgs_cons (dg_name 7) (dgs_cons (dg_name 8) dgs_nil)))) (ds_kill [6, 7, 8] (ds_append 3 ((to_lst (ta_cons td_str (ta_cons (td_var 6) (ta_cons (td_cb rc_str (tq_cons (tr_var 7) tq_nil)) (ta_cons (td_cb rc_str (tq_cons (tr_var 8) tq_nil)) ta_nil)))))).e)))) (ds_seq (ds_preK [6, 7] (ds_for (vs := [6, 7]) (di_seq (td_var 2)) (dg_tup (dgs_cons (dg_name 6) (dgs_cons (dg_name 7) dgs_nil))) (ds_kill [6, 7] (ds_append 3 ((to_lst (ta_cons td_str (ta_cons (td_var 6) (ta_cons (td_cb rc_str (tq_cons (tr_var 7) tq_nil)) ta_nil))))).e)))) (ds_retV 3)))))⟩
theorem sc_law_mixed : FnScope ["_law_rows", "_law_m", "_law_told", "_law_laid", "_law_late", "_law_row", "_law_word"] ["_law_rows", "_law_m"] (defScope s_law_mixed) := ⟨rfl, rfl, rfl, by decide +kernel, rfl, by decide +kernel, by decide +kernel⟩
theorem ok_law_mixed {P : Program} {w : World} {K : PySem.W.Frag} {mg : Str → Option Value} {base : Heap} (C : Ctx K mg) : Kept P w K mg base 1 2 "_law_mixed" ["_law_rows", "_law_m"] d_law_mixed := by
  have nd := sc_law_mixed.nd
  exact kept_of C.F_law_mixed C.g_law_mixed sc_law_mixed rfl rfl (fun _ _ _ _ _ _ us hl => match us, hl with | [_, _], _ => rfl) (s := S_law_mixed) fun cdv A outer sh H E hr tk => ⟨_,
    (pss_cons (ps_set (i := 2) nd rfl (Or.inl rfl) pe_int) (pss_cons (ps_set (i := 3) nd rfl (Or.inl rfl) (pe_lst pa_nil)) (pss_cons (ps_set (i := 4) nd rfl (Or.inl rfl) (pe_lst pa_nil)) (pss_cons (ps_for (passes_of rfl) rfl (pi_seq (pv 0)) (pg_name (i := 5) nd rfl (Or.inl rfl)) (pss_one (ps_if (pt_cmpR (op_in2 (hu65 hr)) (pe_ix ix_seq (pv 5) pe_int (fun _ _ => rfl)) (pe_tup (pa_cons pe_str (pa_cons pe_str pa_nil))) (by rfl)) (pss_one (ps_expr (pe_bm PySem.F.plainAttrs_list PySem.F.slot_list_append PySem.F.type_list_append mt_append (pv 4) (pa_cons (pv 5) pa_nil)))) pss_nil))) (pss_cons (ps_for (passes_of rfl) rfl (pi_seq (pv 0)) (pg_name (i := 5) nd rfl (Or.inl rfl)) (pss_one (ps_if (pt_cmpR (op_in2 (hu65 hr)) (pe_ix ix_seq (pv 5) pe_int (fun _ _ => rfl)) (pe_tup (pa_cons pe_str (pa_cons pe_str pa_nil))) (by rfl)) (pss_cons (ps_expr (pe_bm PySem.F.plainAttrs_list PySem.F.slot_list_append PySem.F.type_list_append mt_append (pv 3) (pa_cons (pv 5) pa_nil))) (pss_cons (ps_set (i := 2) nd rfl (Or.inl rfl) (pe_op op_add2 (pv 2) (pe_callTy call_int3 (by rfl) C.b_int bb_int (pa_cons (pe_cmpR (op_eq2 hr.units) (pe_ix ix_seq (pv 5) pe_int (fun _ _ => rfl)) pe_str (nomark _)) pa_nil)))) (pss_cons (ps_while (passes_of rfl) (PW.pt (pw_and (pt_cmpR op_gt (pe_op op_modN (pv 1) pe_int) pe_int (nomark _)) (pw_and (pt_cmpR op_gt (pe_callB call_len (by rfl) C.b_len bb_len (pa_cons (pv 4) pa_nil)) pe_int (nomark _)) (pw_and1 (pt_cmpR op_lt (pe_callB (cr_max rfl) (by rfl) C.b_max bb_max (pa_cons (pe_lc (own := [("_law_word", 6)]) rfl nd (pi_seq (pe_slice sl_2 (pe_ix ix_seq (pv 4) pe_int (fun _ _ => rfl)) (po_some pe_int) po_none)) (blkOk_by (by kernel_rfl)) (fun _ _ _ _ _ => (pg_name (i := 6) nd rfl (Or.inl rfl))) (fun _ _ _ _ _ => pts_nil) (fun _ _ _ _ _ => (pe_callTy call_int3 (by rfl) C.b_int bb_int (pa_cons (pv 6) pa_nil)))) pa_nil)) (pv 2) (nomark _)))))) (pss_cons (ps_expr (pe_bm PySem.F.plainAttrs_list PySem.F.slot_list_append PySem.F.type_list_append mt_append (pv 3) (pa_cons (pe_ix ix_seq (pv 4) pe_int (fun _ _ => rfl)) pa_nil))) (pss_one (ps_set (i := 4) nd rfl (Or.inl rfl) (pe_slice sl_2 (pv 4) (po_some pe_int) po_none))))) (pss_one (ps_set (i := 1) nd rfl (Or.inl rfl) (pe_op op_fdivN (pv 1) pe_int)))))) pss_nil))) (pss_one (ps_ret (pe_op op_add2 (pv 3) (pv 4))))))))),
    (ds_seq (ds_set 2 td_int) (ds_seq (ds_setO 3 (to_lst ta_nil)) (ds_seq (ds_setO 4 (to_lst ta_nil)) (ds_seq (ds_preK [5] (ds_for (vs := [5]) (di_seq (td_var 0)) (dg_name 5) (ds_kill [5] (ds_if (tt_test ((td_op rd_in ((td_op rd_ix (tr_var 5) (td_int).r)).r ((td_tup (ta_cons td_str (ta_cons td_str ta_nil)))).r)).r) (ds_append 4 (td_var 5)) ds_next)))) (ds_seq (ds_preK [5] (ds_for (vs := [5]) (di_seq (td_var 0)) (dg_name 5) (ds_kill [5] (ds_if (tt_test ((td_op rd_in ((td_op rd_ix (tr_var 5) (td_int).r)).r ((td_tup (ta_cons td_str (ta_cons td_str ta_nil)))).r)).r) (ds_seq (ds_append 3 (td_var 5)) (ds_seq (ds_set 2 (td_op rd_add (tr_var 2) ((td_cb rc_int (tq_cons ((td_op rd_eq ((td_op rd_ix (tr_var 5) (td_int).r)).r (td_str).r)).r tq_nil))).r)) (ds_seq (ds_preK [] (ds_while 20000000 (tt_and (tt_test ((td_op rd_cmp ((td_op rd_mod (tr_var 1) (td_int).r)).r (td_int).r)).r) (tt_and (tt_test ((td_op rd_cmp ((td_cb rc_len (tq_cons (tr_var 4) tq_nil))).r (td_int).r)).r) (tt_test ((td_op rd_cmp ((td_cb rc_max (tq_cons (((to_lc (vs := [6]) (di_seq (td_sl ((td_op rd_ix (tr_var 4) (td_int).r)).r (tp_some (td_int).r) tp_no)) (dg_name 6) tt_yes (td_cb rc_int (tq_cons (tr_var 6) tq_nil)))).e).r tq_nil))).r (tr_var 2))).r))) (ds_kill [] (ds_seq (ds_append 3 (td_op rd_ix (tr_var 4) (td_int).r)) (ds_setO 4 (to_sl (tr_var 4) (tp_some (td_int).r) tp_no)))))) (ds_set 1 (td_op rd_div (tr_var 1) (td_int).r))))) ds_next)))) (ds_ret (td_op rd_add (tr_var 3) (tr_var 4))))))))⟩
theorem sc_law_written : FnScope ["_law_parts_here", "_law_joins_here", "_law_steps_here", "_law_rows", "_law_kind", "_law_sizes", "_law_word", "_law_i", "_law_j"] ["_law_parts_here", "_law_joins_here", "_law_steps_here"] (defScope s_law_written) := ⟨rfl, rfl, rfl, by decide +kernel, rfl, by decide +kernel, by decide +kernel⟩
theorem ok_law_written {P : Program} {w : World} {K : PySem.W.Frag} {mg : Str → Option Value} {base : Heap} (C : Ctx K mg) : Kept P w K mg base 1 3 "_law_written" ["_law_parts_here", "_law_joins_here", "_law_steps_here"] d_law_written := by
  have nd := sc_law_written.nd
  exact kept_of C.F_law_written C.g_law_written sc_law_written rfl rfl (fun _ _ _ _ _ _ us hl => match us, hl with | [_, _, _], _ => rfl) (s := S_law_written) fun cdv A outer sh H E hr tk => ⟨_,
    (pss_cons (ps_set (i := 3) nd rfl (Or.inl rfl) (pe_lst pa_nil)) (pss_cons (ps_for (passes_of rfl) rfl (pi_seq (pv 0)) (pg_tup rfl (pgs_cons (pg_name (i := 4) nd rfl (Or.inl rfl)) (pgs_cons (pg_name (i := 5) nd rfl (Or.inl rfl)) pgs_nil))) (pss_cons (ps_expr (pe_bm PySem.F.plainAttrs_list PySem.F.slot_list_append PySem.F.type_list_append mt_append (pv 3) (pa_cons (pe_op op_add2 pe_str (pv 4)) pa_nil))) (pss_one (ps_for (passes_of rfl) rfl (pi_seq (pe_callB L2.cr_sortedS (by rfl) C.b_sorted bb_sorted (pa_cons (pe_callTy (call_list_dK rfl) (by rfl) C.b_list bb_list (pa_cons (pv 5) pa_nil)) pa_nil))) (pg_name (i := 6) nd rfl (Or.inl rfl)) (pss_one (ps_expr (pe_bm PySem.F.plainAttrs_list PySem.F.slot_list_append PySem.F.type_list_append mt_append (pv 3) (pa_cons (pe_op op_add2 (pe_op op_add2 (pe_op op_add2 pe_str (pv 6)) pe_str) (pe_callTy call_str_int (by rfl) C.b_str bb_str (pa_cons (pe_dget (hu_of hr) (pv 5) (pv 6) (fun _ _ => rfl)) pa_nil))) pa_nil)))))))) (pss_cons (ps_for (passes_of rfl) rfl (pi_seq (pe_callB cr_sort2 (by rfl) C.b_sorted bb_sorted (pa_cons (pv 1) pa_nil))) (pg_tup rfl (pgs_cons (pg_name (i := 6) nd rfl (Or.inl rfl)) (pgs_cons (pg_name (i := 7) nd rfl (Or.inl rfl)) (pgs_cons (pg_name (i := 8) nd rfl (Or.inl rfl)) pgs_nil)))) (pss_one (ps_expr (pe_bm PySem.F.plainAttrs_list PySem.F.slot_list_append PySem.F.type_list_append mt_append (pv 3) (pa_cons (pe_op op_add2 (pe_op op_add2 (pe_op op_add2 (pe_op op_add2 (pe_op op_add2 pe_str (pv 6)) pe_str) (pe_callTy call_str_int (by rfl) C.b_str bb_str (pa_cons (pv 7) pa_nil))) pe_str) (pe_callTy call_str_int (by rfl) C.b_str bb_str (pa_cons (pv 8) pa_nil))) pa_nil))))) (pss_cons (ps_for (passes_of rfl) rfl (pi_seq (pv 2)) (pg_tup rfl (pgs_cons (pg_name (i := 6) nd rfl (Or.inl rfl)) (pgs_cons (pg_name (i := 7) nd rfl (Or.inl rfl)) pgs_nil))) (pss_one (ps_expr (pe_bm PySem.F.plainAttrs_list PySem.F.slot_list_append PySem.F.type_list_append mt_append (pv 3) (pa_cons (pe_op op_add2 (pe_op op_add2 (pe_op op_add2 pe_str (pv 6)) pe_str) (pe_callTy call_str_int (by rfl) C.b_str bb_str (pa_cons (pv 7) pa_nil))) pa_nil))))) (pss_one (ps_ret (pe_m1 PySem.F.slot_str_join PySem.F.type_str_join mt_join pe_str (pv 3)))))))),
    (ds_seq (ds_setO 3 (to_lst ta_nil)) (ds_seq (ds_preK [4, 5, 6] (ds_for (vs := [4, 5]) (di_seq (td_var 0)) (dg_tup (dgs_cons (dg_name 4) (dgs_cons (dg_name 5) dgs_nil))) (ds_kill [4, 5, 6] (ds_seq (ds_append 3 (td_op rd_add (td_str).r (tr_var 4))) (ds_preK [6] (ds_for (vs := [6]) (di_seq ((to_cb rco_sortStr (tq_cons (((to_dvlist (td_var 5))).e).r tq_nil))).e) (dg_name 6) (ds_kill [6] (ds_append 3 (td_op rd_add ((td_op rd_add ((td_op rd_add (td_str).r (tr_var 6))).r (td_str).r)).r ((td_cb rc_str (tq_cons ((td_dvget (td_var 5) (tr_var 6))).r tq_nil))).r))))))))) (ds_seq (ds_preK [6, 7, 8] (ds_for (vs := [6, 7, 8]) (di_seq ((to_cb rco_sorted (tq_cons (tr_var 1) tq_nil))).e) (dg_tup (dgs_cons (dg_name 6) (dgs_cons (dg_name 7) (dgs_cons (dg_name 8) dgs_nil)))) (ds_kill [6, 7, 8] (ds_append 3 (td_op rd_add ((td_op rd_add ((td_op rd_add ((td_op rd_add ((td_op rd_add (td_str).r (tr_var 6))).r (td_str).r)).r ((td_cb rc_str (tq_cons (tr_var 7) tq_nil))).r)).r (td_str).r)).r ((td_cb rc_str (tq_cons (tr_var 8) tq_nil))).r))))) (ds_seq (ds_preK [6, 7] (ds_for (vs := [6, 7]) (di_seq (td_var 2)) (dg_tup (dgs_cons (dg_name 6) (dgs_cons (dg_name 7) dgs_nil))) (ds_kill [6, 7] (ds_append 3 (td_op rd_add ((td_op rd_add ((td_op rd_add (td_str).r (tr_var 6))).r (td_str).r)).r ((td_cb rc_str (tq_cons (tr_var 7) tq_nil))).r))))) (ds_ret (td_m1 rm_join (td_str).r (tr_var 3)))))))⟩
theorem sc_law_due : FnScope ["_law_parts_here", "_law_joins_here", "_law_steps_here", "_law_told", "_law_kind", "_law_sizes", "_law_word"] ["_law_parts_here", "_law_joins_here", "_law_steps_here"] (defScope s_law_due) := ⟨rfl, rfl, rfl, by decide +kernel, rfl, by decide +kernel, by decide +kernel⟩
theorem ok_law_due {P : Program} {w : World} {K : PySem.W.Frag} {mg : Str → Option Value} {base : Heap} (C : Ctx K mg) : Kept P w K mg base 1 3 "_law_due" ["_law_parts_here", "_law_joins_here", "_law_steps_here"] d_law_due := by
  have nd := sc_law_due.nd
  exact kept_of C.F_law_due C.g_law_due sc_law_due rfl rfl (fun _ _ _ _ _ _ us hl => match us, hl with | [_, _, _], _ => rfl) (s := S_law_due) fun cdv A outer sh H E hr tk => ⟨_,
    (pss_cons (ps_set (i := 3) nd rfl (Or.inl rfl) (pe_lst pa_nil)) (pss_cons (ps_for (passes_of rfl) rfl (pi_seq (pv 0)) (pg_tup rfl (pgs_cons (pg_name (i := 4) nd rfl (Or.inl rfl)) (pgs_cons (pg_name (i := 5) nd rfl (Or.inr rfl)) pgs_nil))) (pss_one (ps_expr (pe_bm PySem.F.plainAttrs_list PySem.F.slot_list_append PySem.F.type_list_append mt_append (pv 3) (pa_cons (pe_tup (pa_cons (pv 4) (pa_cons (pe_lc (own := [("_law_word", 6)]) rfl nd (pi_seq (pe_callB L2.cr_sortedS (by rfl) C.b_sorted bb_sorted (pa_cons (pe_callTy (call_list_dK rfl) (by rfl) C.b_list bb_list (pa_cons (pv 5) pa_nil)) pa_nil))) (blkOk_by (by kernel_rfl)) (fun _ _ _ _ _ => (pg_name (i := 6) nd rfl (Or.inl rfl))) (fun _ _ _ _ _ => pts_nil) (fun _ _ _ _ _ => (pe_tup (pa_cons (pv 6) (pa_cons (pe_dget (hu_of hr) (pv 5) (pv 6) (fun _ _ => rfl)) pa_nil))))) pa_nil))) pa_nil))))) (pss_one (ps_ret (pe_tup (pa_cons (pv 3) (pa_cons (pe_callB cr_sort2 (by rfl) C.b_sorted bb_sorted (pa_cons (pv 1) pa_nil)) (pa_cons (pe_callTy call_list_of (by rfl) C.b_list bb_list (pa_cons (pv 2) pa_nil)) pa_nil)))))))),
    (ds_seq (ds_setO 3 (to_lst ta_nil)) (ds_seq (ds_preK [4, 5] (ds_for (vs := [4, 5]) (di_seq (td_var 0)) (dg_tup (dgs_cons (dg_name 4) (dgs_cons (dg_name 5) dgs_nil))) (ds_kill [4, 5] (ds_append 3 (td_tup (ta_cons (td_var 4) (ta_cons ((to_lc (vs := [6]) (di_seq ((to_cb rco_sortStr (tq_cons (((to_dvlist (td_var 5))).e).r tq_nil))).e) (dg_name 6) tt_yes (td_tup (ta_cons (td_var 6) (ta_cons (td_dvget (td_var 5) (tr_var 6)) ta_nil))))).e ta_nil))))))) (ds_frz [3] (ds_ret (td_tup (ta_cons (td_var 3) (ta_cons ((to_cb rco_sorted (tq_cons (tr_var 1) tq_nil))).e (ta_cons ((to_cb rco_list (tq_cons (tr_var 2) tq_nil))).e ta_nil))))))))⟩
theorem sc_law_formed : FnScope ["_law_thing", "_law_part", "_law_row", "_law_one"] ["_law_thing"] (defScope s_law_formed) := ⟨rfl, rfl, rfl, by decide +kernel, rfl, by decide +kernel, by decide +kernel⟩
theorem ok_law_formed {P : Program} {w : World} {K : PySem.W.Frag} {mg : Str → Option Value} {base : Heap} (C : Ctx K mg) : Kept P w K mg base 1 1 "_law_formed" ["_law_thing"] d_law_formed := by
  have nd := sc_law_formed.nd
  exact kept_of C.F_law_formed C.g_law_formed sc_law_formed rfl rfl (fun _ _ _ _ _ _ us hl => match us, hl with | [_], _ => rfl) (s := S_law_formed) fun cdv A outer sh H E hr tk => ⟨_,
    (pss_cons (ps_if (PW.pt (pw_or (pt_not (pt_val (pe_callB call_isi (by rfl) C.b_isinstance bb_isinstance (pa_cons (pv 0) (pa_cons (pe_bltn (v := .ty "tuple") (by rfl) C.b_tuple bb_tuple rfl) pa_nil))))) (pw_or (pt_cmpR (op_ne2 hr.units) (pe_callB call_len (by rfl) C.b_len bb_len (pa_cons (pv 0) pa_nil)) pe_int (nomark _)) (pw_or1 (pt_not (pt_val (pe_callB (cr_all rfl) (by rfl) C.b_all bb_all (pa_cons (pe_lc (own := [("_law_row", 2)]) rfl nd (pi_seq (pv 0)) (blkOk_by (by kernel_rfl)) (fun _ _ _ _ _ => (pg_name (i := 2) nd rfl (Or.inl rfl))) (fun _ _ _ _ _ => pts_nil) (fun _ _ _ _ _ => (pe_callB call_isi (by rfl) C.b_isinstance bb_isinstance (pa_cons (pv 2) (pa_cons (pe_bltn (v := .ty "list") (by rfl) C.b_list bb_list rfl) pa_nil))))) pa_nil)))))))) (pss_one (ps_ret pe_bl)) pss_nil) (pss_cons (ps_for (passes_of rfl) rfl (pi_seq (pe_ix ix_seq (pv 0) pe_int (fun _ _ => rfl))) (pg_name (i := 1) nd rfl (Or.inl rfl)) (pss_one (ps_if (PW.pt (pw_or (pt_not (pt_val (pe_callB call_isi (by rfl) C.b_isinstance bb_isinstance (pa_cons (pv 1) (pa_cons (pe_bltn (v := .ty "tuple") (by rfl) C.b_tuple bb_tuple rfl) pa_nil))))) (pw_or1 (pt_not (pt_val (pe_callB call_isi (by rfl) C.b_isinstance bb_isinstance (pa_cons (pe_ix ix_seq (pv 1) pe_int (fun _ _ => rfl)) (pa_cons (pe_bltn (v := .ty "list") (by rfl) C.b_list bb_list rfl) pa_nil)))))))) (pss_one (ps_ret pe_bl)) pss_nil))) (pss_one (ps_ret (pe_callB (cr_all rfl) (by rfl) C.b_all bb_all (pa_cons (pe_lc (own := [("_law_one", 3)]) rfl nd (pi_seq (pe_op op_add2 (pe_ix ix_seq (pv 0) pe_int (fun _ _ => rfl)) (pe_ix ix_seq (pv 0) pe_int (fun _ _ => rfl)))) (blkOk_by (by kernel_rfl)) (fun _ _ _ _ _ => (pg_name (i := 3) nd rfl (Or.inl rfl))) (fun _ _ _ _ _ => pts_nil) (fun _ _ _ _ _ => (pe_callB call_isi (by rfl) C.b_isinstance bb_isinstance (pa_cons (pv 3) (pa_cons (pe_bltn (v := .ty "tuple") (by rfl) C.b_tuple bb_tuple rfl) pa_nil))))) pa_nil)))))),
    (ds_seq (ds_if (tt_or (tt_not (tt_B ((td_isi (T := "tuple") (tr_var 0))).r)) (tt_or (tt_test ((td_op rd_ne ((td_cb rc_len (tq_cons (tr_var 0) tq_nil))).r (td_int).r)).r) (tt_not (tt_B ((td_cb rc_all (tq_cons (((to_lc (vs := [2]) (di_seq (td_var 0)) (dg_name 2) tt_yes (td_isi (T := "list") (tr_var 2)))).e).r tq_nil))).r)))) (ds_ret td_bl) ds_next) (ds_seq (ds_preK [1] (ds_for (vs := [1]) (di_seq (td_op rd_ix (tr_var 0) (td_int).r)) (dg_name 1) (ds_kill [1] (ds_if (tt_or (tt_not (tt_B ((td_isi (T := "tuple") (tr_var 1))).r)) (tt_not (tt_B ((td_isi (T := "list") ((td_op rd_ix (tr_var 1) (td_int).r)).r)).r))) (ds_ret td_bl) ds_next)))) (ds_ret (td_cb rc_all (tq_cons (((to_lc (vs := [3]) (di_seq (td_op rd_add ((td_op rd_ix (tr_var 0) (td_int).r)).r ((td_op rd_ix (tr_var 0) (td_int).r)).r)) (dg_name 3) tt_yes (td_isi (T := "tuple") (tr_var 3)))).e).r tq_nil)))))⟩
theorem sc_law : FnScope ["_law_script", "_law_salt_here", "_law_cells", "_law_kinds_here", "_law_parts_here", "_law_joins_here", "_law_steps_here", "_law_text_here", "_law_found", "_law_due_here", "_law_written_here", "_law_row", "_law_part"] ["_law_script"] (defScope s_law) := ⟨rfl, rfl, rfl, by decide +kernel, rfl, by decide +kernel, by decide +kernel⟩
theorem fn_law {P : Program} {w : World} {K : PySem.W.Frag} {mg : Str → Option Value} {base : Heap} {fd : FuncData} (FD : FunD K "law" "law" (defArgs s_law) (defBody s_law) (defScope s_law) [] [] (He.ga K "law") fd) (C : Ctx K mg) : FnOk P w K mg base (L2.CX P w) 6 (He.ga K "law") fd ["_law_script"] (spD K 1 d_law) := by
  obtain ⟨fd_law_due, kp_law_due, hg_law_due, hb_law_due, G_law_due⟩ := ok_law_due (P := P) (w := w) (base := base) C
  obtain ⟨fd_law_formed, kp_law_formed, hg_law_formed, hb_law_formed, G_law_formed⟩ := ok_law_formed (P := P) (w := w) (base := base) C
  obtain ⟨fd_law_joins, kp_law_joins, hg_law_joins, hb_law_joins, G_law_joins⟩ := ok_law_joins (P := P) (w := w) (base := base) C
  obtain ⟨fd_law_kinds, kp_law_kinds, hg_law_kinds, hb_law_kinds, G_law_kinds⟩ := ok_law_kinds (P := P) (w := w) (base := base) C
  obtain ⟨fd_law_mixed, kp_law_mixed, hg_law_mixed, hb_law_mixed, G_law_mixed⟩ := ok_law_mixed (P := P) (w := w) (base := base) C
  obtain ⟨fd_law_parts, kp_law_parts, hg_law_parts, hb_law_parts, G_law_parts⟩ := ok_law_parts (P := P) (w := w) (base := base) C
  obtain ⟨fd_law_salt, kp_law_salt, hg_law_salt, hb_law_salt, G_law_salt⟩ := ok_law_salt (P := P) (w := w) (base := base) C
  obtain ⟨fd_law_steps, kp_law_steps, hg_law_steps, hb_law_steps, G_law_steps⟩ := ok_law_steps (P := P) (w := w) (base := base) C
  obtain ⟨fd_law_text, kp_law_text, hg_law_text, hb_law_text, G_law_text⟩ := ok_law_text (P := P) (w := w) (base := base) C
  obtain ⟨fd_law_thing_rows, kp_law_thing_rows, hg_law_thing_rows, hb_law_thing_rows, G_law_thing_rows⟩ := ok_law_thing_rows (P := P) (w := w) (base := base) C
  obtain ⟨fd_law_written, kp_law_written, hg_law_written, hb_law_written, G_law_written⟩ := ok_law_written (P := P) (w := w) (base := base) C
  obtain ⟨fd_read_thing, kp_read_thing, hg_read_thing, hb_read_thing, G_read_thing⟩ := ok_read_thing (P := P) (w := w) (base := base) C
  obtain ⟨fd_write_thing, kp_write_thing, hg_write_thing, hb_write_thing, G_write_thing⟩ := ok_write_thing (P := P) (w := w) (base := base) C
  have nd := sc_law.nd
  exact fn_of0 FD sc_law rfl rfl (s := S_law) fun cdv A outer sh H E hr tk => ⟨_,
    (pss_cons (ps_set (i := 1) nd rfl (Or.inl rfl) (pe_callS G_law_salt (hr.mono (by decide)) (by rfl) hg_law_salt kp_law_salt hb_law_salt (fun σ => passAt tk σ) (pa_cons (pv 0) (pa_cons pe_int pa_nil)))) (pss_cons (ps_set (i := 2) nd rfl (Or.inl rfl) (pe_op op_add2 (pe_slice sl_2 (pv 0) po_none (po_some pe_int)) (pe_lst (pa_cons (pe_op op_fdivN (pv 1) pe_int) (pa_cons (pe_op op_fdivN (pv 1) pe_int) (pa_cons (pe_op op_fdivN (pv 1) pe_int) (pa_cons (pe_op op_fdivN (pv 1) pe_int) pa_nil))))))) (pss_cons (ps_set (i := 3) nd rfl (Or.inl rfl) (pe_callS G_law_kinds (hr.mono (by decide)) (by rfl) hg_law_kinds kp_law_kinds hb_law_kinds (fun σ => passAt tk σ) (pa_cons (pe_slice sl_2 (pv 2) po_none (po_some (pe_op op_add2 pe_int (pe_op op_modN (pe_op op_fdivN (pv 1) pe_int) pe_int)))) (pa_cons (pv 1) pa_nil)))) (pss_cons (ps_set (i := 4) nd rfl (Or.inl rfl) (pe_callS G_law_parts (hr.mono (by decide)) (by rfl) hg_law_parts kp_law_parts hb_law_parts (fun σ => passAt tk σ) (pa_cons (pv 3) (pa_cons (pe_slice sl_2 (pv 2) (po_some pe_int) (po_some (pe_op op_add2 pe_int (pe_op op_modN (pe_op op_fdivN (pv 1) pe_int) pe_int)))) (pa_cons (pv 1) pa_nil))))) (pss_cons (ps_set (i := 5) nd rfl (Or.inl rfl) (pe_callS G_law_joins (hr.mono (by decide)) (by rfl) hg_law_joins kp_law_joins hb_law_joins (fun σ => passAt tk σ) (pa_cons (pe_callB call_len (by rfl) C.b_len bb_len (pa_cons (pv 4) pa_nil)) (pa_cons (pe_slice sl_2 (pv 2) (po_some pe_int) (po_some (pe_op op_add2 pe_int (pe_op op_modN (pe_op op_fdivN (pv 1) pe_int) pe_int)))) (pa_cons (pv 1) pa_nil))))) (pss_cons (ps_set (i := 6) nd rfl (Or.inl rfl) (pe_callS G_law_steps (hr.mono (by decide)) (by rfl) hg_law_steps kp_law_steps hb_law_steps (fun σ => passAt tk σ) (pa_cons (pe_callB call_len (by rfl) C.b_len bb_len (pa_cons (pv 4) pa_nil)) (pa_cons (pe_slice sl_2 (pv 2) (po_some pe_int) (po_some (pe_op op_add2 pe_int (pe_op op_modN (pe_op op_fdivN (pv 1) pe_int) pe_int)))) (pa_cons (pv 1) pa_nil))))) (pss_cons (ps_set (i := 7) nd rfl (Or.inl rfl) (pe_callS G_law_text (hr.mono (by decide)) (by rfl) hg_law_text kp_law_text hb_law_text (fun σ => passAt tk σ) (pa_cons (pe_callS G_law_mixed (hr.mono (by decide)) (by rfl) hg_law_mixed kp_law_mixed hb_law_mixed (fun σ => passAt tk σ) (pa_cons (pe_callS G_law_thing_rows (hr.mono (by decide)) (by rfl) hg_law_thing_rows kp_law_thing_rows hb_law_thing_rows (fun σ => passAt tk σ) (pa_cons (pv 4) (pa_cons (pv 5) (pa_cons (pv 6) pa_nil)))) (pa_cons (pe_op op_fdivN (pv 1) pe_int) pa_nil))) (pa_cons (pe_op op_fdivN (pv 1) pe_int) pa_nil)))) (pss_cons (ps_set (i := 8) nd rfl (Or.inl rfl) (pe_callS G_read_thing (hr.mono (by decide)) (by rfl) hg_read_thing kp_read_thing hb_read_thing (fun σ => passAt tk σ) (pa_cons (pe_callTy call_list_of (by rfl) C.b_list bb_list (pa_cons (pv 3) pa_nil)) (pa_cons (pv 7) pa_nil)))) (pss_cons (ps_set (i := 9) nd rfl (Or.inl rfl) (pe_callS G_law_due (hr.mono (by decide)) (by rfl) hg_law_due kp_law_due hb_law_due (fun σ => passAt tk σ) (pa_cons (pv 4) (pa_cons (pv 5) (pa_cons (pv 6) pa_nil))))) (pss_cons (ps_if (PW.pt (pw_or (pt_not (pt_val (pe_callS G_law_formed (hr.mono (by decide)) (by rfl) hg_law_formed kp_law_formed hb_law_formed (fun σ => passAt tk σ) (pa_cons (pv 8) pa_nil)))) (pw_or1 (pt_cmpR (op_ne2 hr.units) (pv 8) (pv 9) (nomark _))))) (pss_one (ps_ret pe_bl)) pss_nil) (pss_cons (ps_set (i := 10) nd rfl (Or.inl rfl) (pe_callS G_write_thing (hr.mono (by decide)) (by rfl) hg_write_thing kp_write_thing hb_write_thing (fun σ => passAt tk σ) (pa_cons (pv 8) pa_nil))) (pss_cons (ps_if (PW.pt (pw_or (pt_cmpR (op_ne2 hr.units) (pv 10) (pe_callS G_law_written (hr.mono (by decide)) (by rfl) hg_law_written kp_law_written hb_law_written (fun σ => passAt tk σ) (pa_cons (pv 4) (pa_cons (pv 5) (pa_cons (pv 6) pa_nil)))) (nomark _)) (pw_or (pt_cmpR (op_ne2 hr.units) (pv 8) (pv 9) (nomark _)) (pw_or1 (pt_cmpR (op_ne2 hr.units) (pe_callS G_read_thing (hr.mono (by decide)) (by rfl) hg_read_thing kp_read_thing hb_read_thing (fun σ => passAt tk σ) (pa_cons (pe_callTy call_list_of (by rfl) C.b_list bb_list (pa_cons (pv 3) pa_nil)) (pa_cons (pv 10) pa_nil))) (pv 9) (nomark _)))))) (pss_one (ps_ret pe_bl)) pss_nil) (pss_cons (ps_for (passes_of rfl) rfl (pi_seq (pv 8)) (pg_name (i := 11) nd rfl (Or.inl rfl)) (pss_one (ps_expr (pe_bm PySem.F.plainAttrs_list PySem.F.slot_list_append PySem.F.type_list_append mt_append (pv 11) (pa_cons (pe_tup (pa_cons pe_str (pa_cons (pe_lst pa_nil) pa_nil))) pa_nil))))) (pss_cons (ps_for (passes_of rfl) rfl (pi_seq (pe_ix ix_seq (pv 8) pe_int (fun _ _ => rfl))) (pg_name (i := 12) nd rfl (Or.inl rfl)) (pss_one (ps_expr (pe_bm PySem.F.plainAttrs_list PySem.F.slot_list_append PySem.F.type_list_append mt_append (pe_ix ix_seq (pv 12) pe_int (fun _ _ => rfl)) (pa_cons (pe_tup (pa_cons pe_str (pa_cons pe_int pa_nil))) pa_nil))))) (pss_one (ps_ret (pe_and (pe_cmpR (op_eq2 hr.units) (pe_callS G_read_thing (hr.mono (by decide)) (by rfl) hg_read_thing kp_read_thing hb_read_thing (fun σ => passAt tk σ) (pa_cons (pe_callTy call_list_of (by rfl) C.b_list bb_list (pa_cons (pv 3) pa_nil)) (pa_cons (pv 7) pa_nil))) (pv 9) (nomark _)) (pe_one (pe_cmpR (op_eq2 hr.units) (pe_callS G_write_thing (hr.mono (by decide)) (by rfl) hg_write_thing kp_write_thing hb_write_thing (fun σ => passAt tk σ) (pa_cons (pv 9) pa_nil)) (pv 10) (nomark _)))))))))))))))))))),
    (ds_seq (ds_set 1 (td_call (ta_cons (td_var 0) (ta_cons td_int ta_nil)))) (ds_seq (ds_set 2 (td_op rd_add ((td_sl (tr_var 0) tp_no (tp_some (td_int).r))).r (((to_lst (ta_cons (td_op rd_div (tr_var 1) (td_int).r) (ta_cons (td_op rd_div (tr_var 1) (td_int).r) (ta_cons (td_op rd_div (tr_var 1) (td_int).r) (ta_cons (td_op rd_div (tr_var 1) (td_int).r) ta_nil)))))).e).r)) (ds_seq (ds_set 3 (td_call (ta_cons (td_sl (tr_var 2) tp_no (tp_some ((td_op rd_add (td_int).r ((td_op rd_mod ((td_op rd_div (tr_var 1) (td_int).r)).r (td_int).r)).r)).r)) (ta_cons (td_var 1) ta_nil)))) (ds_seq (ds_set 4 (td_call (ta_cons (td_var 3) (ta_cons (td_sl (tr_var 2) (tp_some (td_int).r) (tp_some ((td_op rd_add (td_int).r ((td_op rd_mod ((td_op rd_div (tr_var 1) (td_int).r)).r (td_int).r)).r)).r)) (ta_cons (td_var 1) ta_nil))))) (ds_seq (ds_set 5 (td_call (ta_cons (td_cb rc_len (tq_cons (tr_var 4) tq_nil)) (ta_cons (td_sl (tr_var 2) (tp_some (td_int).r) (tp_some ((td_op rd_add (td_int).r ((td_op rd_mod ((td_op rd_div (tr_var 1) (td_int).r)).r (td_int).r)).r)).r)) (ta_cons (td_var 1) ta_nil))))) (ds_seq (ds_set 6 (td_call (ta_cons (td_cb rc_len (tq_cons (tr_var 4) tq_nil)) (ta_cons (td_sl (tr_var 2) (tp_some (td_int).r) (tp_some ((td_op rd_add (td_int).r ((td_op rd_mod ((td_op rd_div (tr_var 1) (td_int).r)).r (td_int).r)).r)).r)) (ta_cons (td_var 1) ta_nil))))) (ds_seq (ds_set 7 (td_call (ta_cons (td_call (ta_cons (td_call (ta_cons (td_var 4) (ta_cons (td_var 5) (ta_cons (td_var 6) ta_nil)))) (ta_cons (td_op rd_div (tr_var 1) (td_int).r) ta_nil))) (ta_cons (td_op rd_div (tr_var 1) (td_int).r) ta_nil)))) (ds_seq (ds_setM 8 (tm_call (ta_cons ((to_cb rco_list (tq_cons (tr_var 3) tq_nil))).e (ta_cons (td_var 7) ta_nil)))) (ds_seq (ds_set 9 (td_call (ta_cons (td_var 4) (ta_cons (td_var 5) (ta_cons (td_var 6) ta_nil))))) (ds_seq (ds_if (tt_or (tt_not (tt_B ((td_callH (thq_cons (th_var 8) thq_nil))).r)) (tt_testh (th_op rd_ne (th_var 8) (th_var 9)))) (ds_ret td_bl) ds_next) (ds_seq (ds_set 10 (td_callH (thq_cons (th_var 8) thq_nil))) (ds_seq (ds_if (tt_or (tt_test ((td_op rd_ne (tr_var 10) ((td_call (ta_cons (td_var 4) (ta_cons (td_var 5) (ta_cons (td_var 6) ta_nil))))).r)).r) (tt_or (tt_testh (th_op rd_ne (th_var 8) (th_var 9))) (tt_test ((td_op rd_ne ((td_call (ta_cons ((to_cb rco_list (tq_cons (tr_var 3) tq_nil))).e (ta_cons (td_var 10) ta_nil)))).r (tr_var 9))).r))) (ds_ret td_bl) ds_next) (ds_seq (ds_preK [11] (ds_forT 8 11 (ds_kill [] (ds_appendM 11 (tm_tup (tma_cons (tm_fr td_str) (tma_cons (tm_own (to_lst ta_nil)) tma_nil))))) kp_drop)) (ds_seq (ds_preK [12] (ds_forM 12 (tm_atM 8 (tp_ix 8 (tp_var 8) (td_int).r)) (ds_kill [12] (ds_appendP 12 (tp_ix 12 (tp_var 12) (td_int).r) (td_tup (ta_cons td_str (ta_cons td_int ta_nil))))))) (ds_ret (td_and ((td_op rd_eq ((td_call (ta_cons ((to_cb rco_list (tq_cons (tr_var 3) tq_nil))).e (ta_cons (td_var 7) ta_nil)))).r (tr_var 9))).r (td_op rd_eq ((td_call (ta_cons (td_var 9) ta_nil))).r (tr_var 10))))))))))))))))))⟩
end K05H
namespace K05H
open PySem PySem.Spec PyProof.Rows L2 DL K05
open PySem.W PySem.Calls
theorem ctx {K : PySem.W.Frag} {h : Heap} {mg : Str → Option Value} (X : K.In h) (G : h.Ns mainGlobals mg) (hex : exA K = true) (c : He.SaysD faA fnA K) : Ctx K mg where
  F_signs_among := c.def_ 0 (d := ⟨("signs_among", none), "signs_among", "signs_among", defArgs s_signs_among, defBody s_signs_among, defScope s_signs_among, [], []⟩) rfl
  g_signs_among := He.glo_ok X G (c.fact 0 (f := .glo "signs_among") rfl)
  F_is_word := c.def_ 1 (d := ⟨("is_word", none), "is_word", "is_word", defArgs s_is_word, defBody s_is_word, defScope s_is_word, [], []⟩) rfl
  g_is_word := He.glo_ok X G (c.fact 1 (f := .glo "is_word") rfl)
  F_number_in := c.def_ 2 (d := ⟨("number_in", none), "number_in", "number_in", defArgs s_number_in, defBody s_number_in, defScope s_number_in, [], []⟩) rfl
  g_number_in := He.glo_ok X G (c.fact 2 (f := .glo "number_in") rfl)
  F_word_rows := c.def_ 3 (d := ⟨("word_rows", none), "word_rows", "word_rows", defArgs s_word_rows, defBody s_word_rows, defScope s_word_rows, [], []⟩) rfl
  g_word_rows := He.glo_ok X G (c.fact 3 (f := .glo "word_rows") rfl)
  F_is_kind := c.def_ 4 (d := ⟨("is_kind", none), "is_kind", "is_kind", defArgs s_is_kind, defBody s_is_kind, defScope s_is_kind, [], []⟩) rfl
  g_is_kind := He.glo_ok X G (c.fact 4 (f := .glo "is_kind") rfl)
  F_take_part := c.def_ 5 (d := ⟨("take_part", none), "take_part", "take_part", defArgs s_take_part, defBody s_take_part, defScope s_take_part, [], []⟩) rfl
  g_take_part := He.glo_ok X G (c.fact 5 (f := .glo "take_part") rfl)
  F_take_size := c.def_ 6 (d := ⟨("take_size", none), "take_size", "take_size", defArgs s_take_size, defBody s_take_size, defScope s_take_size, [], []⟩) rfl
  g_take_size := He.glo_ok X G (c.fact 6 (f := .glo "take_size") rfl)
  F_look_part := c.def_ 7 (d := ⟨("look_part", none), "look_part", "look_part", defArgs s_look_part, defBody s_look_part, defScope s_look_part, [], []⟩) rfl
  g_look_part := He.glo_ok X G (c.fact 7 (f := .glo "look_part") rfl)
  F_take_join := c.def_ 8 (d := ⟨("take_join", none), "take_join", "take_join", defArgs s_take_join, defBody s_take_join, defScope s_take_join, [], []⟩) rfl
  g_take_join := He.glo_ok X G (c.fact 8 (f := .glo "take_join") rfl)
  F_take_step := c.def_ 9 (d := ⟨("take_step", none), "take_step", "take_step", defArgs s_take_step, defBody s_take_step, defScope s_take_step, [], []⟩) rfl
  g_take_step := He.glo_ok X G (c.fact 9 (f := .glo "take_step") rfl)
  F_read_thing := c.def_ 10 (d := ⟨("read_thing", none), "read_thing", "read_thing", defArgs s_read_thing, defBody s_read_thing, defScope s_read_thing, [], []⟩) rfl
  g_read_thing := He.glo_ok X G (c.fact 10 (f := .glo "read_thing") rfl)
  F_thing_rows := c.def_ 11 (d := ⟨("thing_rows", none), "thing_rows", "thing_rows", defArgs s_thing_rows, defBody s_thing_rows, defScope s_thing_rows, [], []⟩) rfl
  g_thing_rows := He.glo_ok X G (c.fact 11 (f := .glo "thing_rows") rfl)
  F_write_thing := c.def_ 12 (d := ⟨("write_thing", none), "write_thing", "write_thing", defArgs s_write_thing, defBody s_write_thing, defScope s_write_thing, [], []⟩) rfl
  g_write_thing := He.glo_ok X G (c.fact 12 (f := .glo "write_thing") rfl)
  F_law_mix := c.def_ 13 (d := ⟨("_law_mix", none), "_law_mix", "_law_mix", defArgs s_law_mix, defBody s_law_mix, defScope s_law_mix, [], []⟩) rfl
  g_law_mix := He.glo_ok X G (c.fact 13 (f := .glo "_law_mix") rfl)
  F_law_salt := c.def_ 14 (d := ⟨("_law_salt", none), "_law_salt", "_law_salt", defArgs s_law_salt, defBody s_law_salt, defScope s_law_salt, [], []⟩) rfl
  g_law_salt := He.glo_ok X G (c.fact 14 (f := .glo "_law_salt") rfl)
  F_law_name := c.def_ 15 (d := ⟨("_law_name", none), "_law_name", "_law_name", defArgs s_law_name, defBody s_law_name, defScope s_law_name, [], []⟩) rfl
  g_law_name := He.glo_ok X G (c.fact 15 (f := .glo "_law_name") rfl)
  F_law_kinds := c.def_ 16 (d := ⟨("_law_kinds", none), "_law_kinds", "_law_kinds", defArgs s_law_kinds, defBody s_law_kinds, defScope s_law_kinds, [], []⟩) rfl
  g_law_kinds := He.glo_ok X G (c.fact 16 (f := .glo "_law_kinds") rfl)
  F_law_text := c.def_ 17 (d := ⟨("_law_text", none), "_law_text", "_law_text", defArgs s_law_text, defBody s_law_text, defScope s_law_text, [], []⟩) rfl
  g_law_text := He.glo_ok X G (c.fact 17 (f := .glo "_law_text") rfl)
  F_law_number := c.def_ 18 (d := ⟨("_law_number", none), "_law_number", "_law_number", defArgs s_law_number, defBody s_law_number, defScope s_law_number, [], []⟩) rfl
  g_law_number := He.glo_ok X G (c.fact 18 (f := .glo "_law_number") rfl)
  F_law_parts := c.def_ 19 (d := ⟨("_law_parts", none), "_law_parts", "_law_parts", defArgs s_law_parts, defBody s_law_parts, defScope s_law_parts, [], []⟩) rfl
  g_law_parts := He.glo_ok X G (c.fact 19 (f := .glo "_law_parts") rfl)
  F_law_joins := c.def_ 20 (d := ⟨("_law_joins", none), "_law_joins", "_law_joins", defArgs s_law_joins, defBody s_law_joins, defScope s_law_joins, [], []⟩) rfl
  g_law_joins := He.glo_ok X G (c.fact 20 (f := .glo "_law_joins") rfl)
  F_law_steps := c.def_ 21 (d := ⟨("_law_steps", none), "_law_steps", "_law_steps", defArgs s_law_steps, defBody s_law_steps, defScope s_law_steps, [], []⟩) rfl
  g_law_steps := He.glo_ok X G (c.fact 21 (f := .glo "_law_steps") rfl)
  F_law_thing_rows := c.def_ 22 (d := ⟨("_law_thing_rows", none), "_law_thing_rows", "_law_thing_rows", defArgs s_law_thing_rows, defBody s_law_thing_rows, defScope s_law_thing_rows, [], []⟩) rfl
  g_law_thing_rows := He.glo_ok X G (c.fact 22 (f := .glo "_law_thing_rows") rfl)
  F_law_mixed := c.def_ 23 (d := ⟨("_law_mixed", none), "_law_mixed", "_law_mixed", defArgs s_law_mixed, defBody s_law_mixed, defScope s_law_mixed, [], []⟩) rfl
  g_law_mixed := He.glo_ok X G (c.fact 23 (f := .glo "_law_mixed") rfl)
  F_law_written := c.def_ 24 (d := ⟨("_law_written", none), "_law_written", "_law_written", defArgs s_law_written, defBody s_law_written, defScope s_law_written, [], []⟩) rfl
  g_law_written := He.glo_ok X G (c.fact 24 (f := .glo "_law_written") rfl)
  F_law_due := c.def_ 25 (d := ⟨("_law_due", none), "_law_due", "_law_due", defArgs s_law_due, defBody s_law_due, defScope s_law_due, [], []⟩) rfl
  g_law_due := He.glo_ok X G (c.fact 25 (f := .glo "_law_due") rfl)
  F_law_formed := c.def_ 26 (d := ⟨("_law_formed", none), "_law_formed", "_law_formed", defArgs s_law_formed, defBody s_law_formed, defScope s_law_formed, [], []⟩) rfl
  g_law_formed := He.glo_ok X G (c.fact 26 (f := .glo "_law_formed") rfl)
  F_law := c.def_ 27 (d := ⟨("law", none), "law", "law", defArgs s_law, defBody s_law, defScope s_law, [], []⟩) rfl
  g_law := He.glo_ok X G (c.fact 27 (f := .glo "law") rfl)
  b_all := He.free_ok X G (c.fact 28 (f := .free "all") rfl)
  b_enumerate := He.free_ok X G (c.fact 29 (f := .free "enumerate") rfl)
  b_int := He.free_ok X G (c.fact 30 (f := .free "int") rfl)
  b_isinstance := He.free_ok X G (c.fact 31 (f := .free "isinstance") rfl)
  b_len := He.free_ok X G (c.fact 32 (f := .free "len") rfl)
  b_list := He.free_ok X G (c.fact 33 (f := .free "list") rfl)
  b_max := He.free_ok X G (c.fact 34 (f := .free "max") rfl)
  b_range := He.free_ok X G (c.fact 35 (f := .free "range") rfl)
  b_sorted := He.free_ok X G (c.fact 36 (f := .free "sorted") rfl)
  b_str := He.free_ok X G (c.fact 37 (f := .free "str") rfl)
  b_sum := He.free_ok X G (c.fact 38 (f := .free "sum") rfl)
  b_tuple := He.free_ok X G (c.fact 39 (f := .free "tuple") rfl)
  c_FIGURES := He.str_ok X G (c.fact 40 (f := .str "FIGURES" "0123456789") rfl)
  c_KEPT := He.glo_ok X G (c.fact 41 (f := .glo "KEPT") rfl)
  k_KEPT := fun F => He.tupB_ok (He.ba (He.ba (He.ba (He.ba (He.ba hex).1).1).1).1).1 F
  c_MOST_FIGURES := He.int_ok X G (c.fact 42 (f := .int "MOST_FIGURES" 30) rfl)
  c_MOST_JOINS := He.int_ok X G (c.fact 43 (f := .int "MOST_JOINS" 16) rfl)
  c_MOST_PARTS := He.int_ok X G (c.fact 44 (f := .int "MOST_PARTS" 8) rfl)
  c_MOST_SIGNS := He.int_ok X G (c.fact 45 (f := .int "MOST_SIGNS" 8) rfl)
  c_MOST_SIZES := He.int_ok X G (c.fact 46 (f := .int "MOST_SIZES" 4) rfl)
  c_MOST_STEPS := He.int_ok X G (c.fact 47 (f := .int "MOST_STEPS" 8) rfl)
  c_SMALL := He.str_ok X G (c.fact 48 (f := .str "SMALL" "abcdefghijklmnopqrstuvwxyz") rfl)
  I_BadRow := c.def_ 28 (d := ⟨("BadRow", some "__init__"), "__init__", "BadRow.__init__", defArgs i_BadRow, defBody i_BadRow, defScope i_BadRow, [], []⟩) rfl
  O_BadRow := oclsB_ok (He.ba (He.ba (He.ba (He.ba (He.ba hex).1).1).1).1).2 (He.glo_ok X G (c.fact 49 (f := .glo "BadRow") rfl))
  I_NoKind := c.def_ 29 (d := ⟨("NoKind", some "__init__"), "__init__", "NoKind.__init__", defArgs i_NoKind, defBody i_NoKind, defScope i_NoKind, [], []⟩) rfl
  O_NoKind := oclsB_ok (He.ba (He.ba (He.ba (He.ba hex).1).1).1).2 (He.glo_ok X G (c.fact 50 (f := .glo "NoKind") rfl))
  I_NoPart := c.def_ 30 (d := ⟨("NoPart", some "__init__"), "__init__", "NoPart.__init__", defArgs i_NoPart, defBody i_NoPart, defScope i_NoPart, [], []⟩) rfl
  O_NoPart := oclsB_ok (He.ba (He.ba (He.ba hex).1).1).2 (He.glo_ok X G (c.fact 51 (f := .glo "NoPart") rfl))
  I_TooBig := c.def_ 31 (d := ⟨("TooBig", some "__init__"), "__init__", "TooBig.__init__", defArgs i_TooBig, defBody i_TooBig, defScope i_TooBig, [], []⟩) rfl
  O_TooBig := oclsB_ok (He.ba (He.ba hex).1).2 (He.glo_ok X G (c.fact 52 (f := .glo "TooBig") rfl))
  I_Twice := c.def_ 32 (d := ⟨("Twice", some "__init__"), "__init__", "Twice.__init__", defArgs i_Twice, defBody i_Twice, defScope i_Twice, [], []⟩) rfl
  O_Twice := oclsB_ok (He.ba hex).2 (He.glo_ok X G (c.fact 53 (f := .glo "Twice") rfl))
theorem holds (T : ∀ ns : List Int, ns.length ≤ 63 → d_law [.list (ns.map PyData.int)] = .rt (.d (.bool true))) : PySem.Challenge.rw_claimwise_k05_things_read_and_written.Holds := by
  w_on; o_law
  refine HandSHeadRun.head_any (r := RowL) (q := PySem.W.view RowL.prog [47]) (H := hk) (ob := ob) (M := 12000) (loose := nmA) (d := HandSHeadRun.topDef RowL.prog 47) (kwd := []) ob_eq
    (by kernel_rfl) (fun s => by kernel_rfl) run (by kernel_rfl) (by kernel_rfl) (by kernel_rfl) (by rfl) (by first | assumption | decide +kernel) (by decide +kernel) ⟨rfl, rfl, rfl, rfl, rfl, by decide +kernel⟩ ?hw ?hc
  case hw => w_witness2
  case hc =>
    refine law_end (l := PySem.Challenge.rw_claimwise_k05_things_read_and_written) (n := 4) (k := 6) (fa := faA) (fn := fnA) (ex := exA) (x := "_law_script") (f := d_law) rfl rfl (by kernel_rfl) ⟨rfl, by decide, by decide⟩ (by kernel_rfl) ?F T
    intro w K h mg KX G hex c
    have C := ctx KX G hex c
    obtain ⟨fd, FD⟩ := C.F_law
    refine ⟨fd, fun s u => FunD.bindsA (ps := ["_law_script"]) FD (fun _ _ _ _ _ _ us hl => match us, hl with | [_], _ => rfl) s [u] rfl, C.g_law, fun base _ _ => fn_law FD C⟩
end K05H
namespace K05
open PySem L2 DL
abbrev Ks := List (Str × Str)
def eS : Str := Str.ofString ""
def kI (p : Str × Str) : PD := .tuple [.str p.1, .str p.2]
def kD (ws : Ks) : PD := .list (ws.map kI)
def Gr : Ks → Prop
  | [] => True
  | p :: r => p.1 ≠ eS ∧ p.1 ∉ r.map (·.1) ∧ (p.2 = eS ∨ p.2 ∈ r.map (·.1)) ∧ Gr r
theorem Gr.ne : ∀ {r : Ks}, Gr r → ∀ p ∈ r, p.1 ≠ eS
  | q :: r, h, p, hp => by
    rcases List.mem_cons.mp hp with e | e
    · rw [e]; exact h.1
    · exact Gr.ne h.2.2.2 p e
theorem let_cs : cs (Str.ofString "bcdefghijklmnopqrstuvwxyz") = List.range' 98 25 := by decide +kernel
theorem let_ix (i : Int) (h : 0 ≤ i) (h2 : i < 25) : ixD (.str (Str.ofString "bcdefghijklmnopqrstuvwxyz")) (.int i) = .ok (.str (sg (98 + i.toNat))) := by
  refine x_ix_s _ i _ (sz (by decide +kernel)) h ?_
  rw [let_cs, List.getElem?_range' (by omega)]
  simp
def tT (s : Int) (k : Nat) : Nat := 98 + ((7 * (k : Int) + s / 7) % 25).toNat
def nmL (s : Int) (k : Nat) : List Nat :=
  if s % 5 = 0 then [tT s k]
  else if s % 5 = 1 ∧ k < 8 then List.replicate (1 + (3 * (k : Int) + s / 35) % 8).toNat (98 + (s / 5 % 7).toNat)
  else List.replicate (s / 35 % (2 + s / 5 % 7 - 1)).toNat (98 + (s / 245 % 25).toNat) ++ [tT s k] ++ [113] ++ List.replicate (2 + s / 5 % 7 - s / 35 % (2 + s / 5 % 7 - 1) - 2).toNat (98 + (s / 6125 % 25).toNat)
def nm (s : Int) (k : Nat) : Str := ⟨(nmL s k).toArray⟩
theorem nm_cs (s : Int) (k : Nat) : cs (nm s k) = nmL s k := rfl
theorem nm_of {z : Str} {s : Int} {k : Nat} (h : cs z = nmL s k) : z = nm s k := cs_ext (by rw [h, nm_cs])
theorem law_name (s : Int) (k : Nat) (h : 0 ≤ s) (h2 : s < 2 ^ 62) (hk : k < 100) : d_law_name [.int k, .int s] = .rt (.d (.str (nm s k))) := by
  show (S_law_name [some (.d (.int k)), some (.d (.int s)), none, none, none, none, none]).fr = _
  unfold S_law_name
  generalize eL : Str.ofString "bcdefghijklmnopqrstuvwxyz" = L
  have ix := fun i h h2 => eL ▸ let_ix i h h2
  rw [seq_nx (ρ1 := [some (.d (.int k)), some (.d (.int s)), some (.d (.str L)), none, none, none, none]) (by simp)]
  have m7 := x_mul_l 7 (k : Int) (by decide) (by decide)
  have m3 := x_mul_l 3 (k : Int) (by decide) (by decide)
  have d7 := x_div s 7 (by decide) (by decide)
  have d5 := x_div s 5 (by decide) (by decide)
  have d35 := x_div s 35 (by decide) (by decide)
  have d245 := x_div s 245 (by decide) (by decide)
  have d6125 := x_div s 6125 (by decide) (by decide)
  have md := fun (a : Int) => x_mod a 25 (by decide)
  have md5 := fun (a : Int) => x_mod a 5 (by decide)
  have md7 := fun (a : Int) => x_mod a 7 (by decide)
  have md8 := fun (a : Int) => x_mod a 8 (by decide)
  rw [seq_nx (ρ1 := [some (.d (.int k)), some (.d (.int s)), some (.d (.str L)), some (.d (.str (sg (tT s k)))), none, none, none]) (by
    have := ix ((7 * (k : Int) + s / 7) % 25) (by omega) (by omega)
    simp [rVar, m7, d7, md, this, tT])]
  by_cases c : s % 5 = 0
  · rw [seq_rt (x := .d (.str (sg (tT s k)))) (by
      rw [if_t (by simp [rVar, md5, c])]
      rfl)]
    rw [nm_of (z := sg (tT s k)) (s := s) (k := k) (by unfold nmL; rw [if_pos c]; rfl)]
    rfl
  rw [seq_nx (ρ1 := [some (.d (.int k)), some (.d (.int s)), some (.d (.str L)), some (.d (.str (sg (tT s k)))), none, none, none]) (by
    rw [if_f (by simp [rVar, md5, c])]
    rfl)]
  by_cases c1 : s % 5 = 1 ∧ k < 8
  · have k8 : (k : Int) < 8 := by omega
    have e1 := ix (s / 5 % 7) (by omega) (by omega)
    have sl : (sg (98 + (s / 5 % 7).toNat)).length * (1 + (3 * (k : Int) + s / 35) % 8).toNat ≤ sizeLine := sz (by rw [sg_len]; omega)
    have e2 := x_mul_s (sg (98 + (s / 5 % 7).toNat)) (1 + (3 * (k : Int) + s / 35) % 8) (by omega) (by omega) sl
    rw [seq_rt (x := .d (.str (nm s k))) (by
      rw [if_t (by simp [rVar, md5, c1, k8])]
      refine ret_ok ?_
      rw [← nm_of (z := mulS (sg (98 + (s / 5 % 7).toNat)) (1 + (3 * (k : Int) + s / 35) % 8)) (s := s) (k := k) (by unfold nmL; rw [if_neg c, if_pos c1, mulS_sg])]
      simp [rVar, d5, md7, e1, m3, d35, md8, e2])]
    rfl
  rw [seq_nx (ρ1 := [some (.d (.int k)), some (.d (.int s)), some (.d (.str L)), some (.d (.str (sg (tT s k)))), none, none, none]) (by
    by_cases q : s % 5 = 1
    · have k8 : ¬ (k : Int) < 8 := fun w => c1 ⟨q, by omega⟩
      rw [if_f (by simp [rVar, md5, q, k8])]
      rfl
    · rw [if_f (by simp [rVar, md5, q])]
      rfl)]
  rw [seq_nx (ρ1 := [some (.d (.int k)), some (.d (.int s)), some (.d (.str L)), some (.d (.str (sg (tT s k)))), some (.d (.int (2 + s / 5 % 7))), none, none]) (by simp [rVar, d5, md7])]
  have mz := x_mod (s / 35) (2 + s / 5 % 7 - 1) (by omega)
  have hz : 0 ≤ s / 35 % (2 + s / 5 % 7 - 1) ∧ s / 35 % (2 + s / 5 % 7 - 1) < 2 + s / 5 % 7 - 1 := ⟨Int.emod_nonneg _ (by omega), Int.emod_lt_of_pos _ (by omega)⟩
  rw [seq_nx (ρ1 := [some (.d (.int k)), some (.d (.int s)), some (.d (.str L)), some (.d (.str (sg (tT s k)))), some (.d (.int (2 + s / 5 % 7))), some (.d (.int (s / 35 % (2 + s / 5 % 7 - 1)))), none]) (by simp [rVar, d35, mz])]
  have e1 := ix (s / 245 % 25) (by omega) (by omega)
  have e3 := ix (s / 6125 % 25) (by omega) (by omega)
  have nmq : nmL s k = List.replicate (s / 35 % (2 + s / 5 % 7 - 1)).toNat (98 + (s / 245 % 25).toNat) ++ [tT s k] ++ [113] ++ List.replicate (2 + s / 5 % 7 - s / 35 % (2 + s / 5 % 7 - 1) - 2).toNat (98 + (s / 6125 % 25).toNat) := by
    unfold nmL
    rw [if_neg c, if_neg c1]
  generalize s / 35 % (2 + s / 5 % 7 - 1) = sp at hz nmq
  have s2 : 2 + s / 5 % 7 ≤ 8 ∧ 2 ≤ 2 + s / 5 % 7 := by omega
  generalize 2 + s / 5 % 7 = S at hz nmq s2
  have e2 := x_mul_s (sg (98 + (s / 245 % 25).toNat)) sp (by omega) (by omega) (sz (by rw [sg_len]; omega))
  have e4 := x_mul_s (sg (98 + (s / 6125 % 25).toNat)) (S - sp - 2) (by omega) (by omega) (sz (by rw [sg_len]; omega))
  rw [seq_nx (ρ1 := [some (.d (.int k)), some (.d (.int s)), some (.d (.str L)), some (.d (.str (sg (tT s k)))), some (.d (.int S)), some (.d (.int sp)), some (.d (.str (mulS (sg (98 + (s / 245 % 25).toNat)) sp)))]) (by simp [rVar, d245, md, e1, e2])]
  have q1 : Str.ofString "q" = sg 113 := by decide +kernel
  have l1 : (mulS (sg (98 + (s / 245 % 25).toNat)) sp).length + 1 ≤ sizeLine := sz (by rw [mulS_len, sg_len]; omega)
  have l2 : (mulS (sg (98 + (s / 245 % 25).toNat)) sp).length + 1 + 1 ≤ sizeLine := sz (by rw [mulS_len, sg_len]; omega)
  have l3 : (mulS (sg (98 + (s / 245 % 25).toNat)) sp).length + 1 + 1 + (mulS (sg (98 + (s / 6125 % 25).toNat)) (S - sp - 2)).length ≤ sizeLine := sz (by rw [mulS_len, mulS_len, sg_len, sg_len]; omega)
  rw [ret_ok (x := .str (nm s k)) (by
    rw [← nm_of (z := mulS (sg (98 + (s / 245 % 25).toNat)) sp ++ sg (tT s k) ++ sg 113 ++ mulS (sg (98 + (s / 6125 % 25).toNat)) (S - sp - 2)) (s := s) (k := k) (by
      rw [nmq, cs_app, cs_app, cs_app, mulS_sg, mulS_sg]
      rfl)]
    simp [rVar, q1, d6125, md, e3, e4, l1, l2, l3])]
  rfl
theorem nm_ne (s : Int) (k : Nat) (h : 0 ≤ s) : nm s k ≠ eS := by
  intro q
  have e : nmL s k = [] := by
    rw [← nm_cs, q]
    decide +kernel
  unfold nmL at e
  split at e
  · cases e
  · split at e
    · have := congrArg List.length e
      rw [List.length_replicate] at this
      simp at this
      omega
    · simp at e
theorem nm_inj (s : Int) (k j : Nat) (h : 0 ≤ s) (hk : k < 16) (hj : j < 16) (e : nm s k = nm s j) : k = j := by
  have e : nmL s k = nmL s j := by rw [← nm_cs, ← nm_cs, e]
  have tt : tT s k = tT s j → k = j := by
    intro q
    unfold tT at q
    omega
  unfold nmL at e
  by_cases c : s % 5 = 0
  · rw [if_pos c, if_pos c] at e
    injection e with e _
    exact tt e
  · rw [if_neg c, if_neg c] at e
    have third : ∀ (a : Nat) (x y z w : Nat) (b d : List Nat), List.replicate a x ++ [y] ++ [113] ++ b = List.replicate a x ++ [z] ++ [113] ++ d → y = z := by
      intro a x y z w b d q
      rw [List.append_assoc, List.append_assoc, List.append_assoc, List.append_assoc] at q
      have := List.append_cancel_left q
      injection this
    have noq : ∀ (a : Nat) (x y : Nat) (n : Nat) (b l : List Nat), x < 113 → List.replicate a x = l ++ [y] ++ [113] ++ b → False := by
      intro a x y n b l hx q
      have m : 113 ∈ List.replicate a x := by rw [q]; simp
      have := (List.mem_replicate.mp m).2
      omega
    by_cases c1 : s % 5 = 1 ∧ k < 8
    · rw [if_pos c1] at e
      by_cases c2 : s % 5 = 1 ∧ j < 8
      · rw [if_pos c2] at e
        have := congrArg List.length e
        rw [List.length_replicate, List.length_replicate] at this
        omega
      · rw [if_neg c2] at e
        exact (noq _ _ _ 0 _ _ (by omega) e).elim
    · rw [if_neg c1] at e
      by_cases c2 : s % 5 = 1 ∧ j < 8
      · rw [if_pos c2] at e
        exact (noq _ _ _ 0 _ _ (by omega) e.symm).elim
      · rw [if_neg c2] at e
        exact tt (third _ _ _ _ 0 _ _ e)
theorem law_mix (a b c : Int) (h : 0 ≤ b) (h2 : b < 1000) (hc : -(2 ^ 64) < c) (hc2 : c < 2 ^ 64) : d_law_mix [.int a, .int b, .int c] = .rt (.d (.int ((a + b * b + 1) * c % 2305843009213693951))) := by
  show (S_law_mix [some (.d (.int a)), some (.d (.int b)), some (.d (.int c))]).fr = _
  unfold S_law_mix
  rw [ret_ok (x := .int ((a + b * b + 1) * c % 2305843009213693951))]
  · rfl
  simp only [x_eOp, x_eC, rVar]
  simp [x_mul_l b b (by omega) (by omega), x_mul_r (a + b * b + 1) c hc hc2, x_mod _ 2305843009213693951 (by decide)]
def Ok (s : Int) (ws : Ks) : Prop := Gr ws.reverse ∧ ∀ (j : Nat) (p : Str × Str), ws[j]? = some p → p.1 = nm s j
theorem Ok.snoc {s : Int} {ws : Ks} (h0 : 0 ≤ s) (h : Ok s ws) (hl : ws.length < 12) (u : Str) (hu : u = eS ∨ u ∈ ws.map (·.1)) : Ok s (ws ++ [(nm s ws.length, u)]) := by
  refine ⟨?_, fun j p e => ?_⟩
  · have er : (ws ++ [(nm s ws.length, u)]).reverse = (nm s ws.length, u) :: ws.reverse := by simp
    rw [er]
    refine ⟨nm_ne s _ h0, fun q => ?_, ?_, h.1⟩
    · rw [List.map_reverse, List.mem_reverse] at q
      obtain ⟨p, hp, e⟩ := List.mem_map.mp q
      obtain ⟨j, hj⟩ := List.getElem?_of_mem hp
      have lt := (List.getElem?_eq_some_iff.mp hj).1
      rw [h.2 j p hj] at e
      have := nm_inj s j ws.length h0 (by omega) (by omega) e
      omega
    · rcases hu with q | q
      · exact .inl q
      · exact .inr (by rw [List.map_reverse]; exact List.mem_reverse.mpr q)
  · by_cases c : j < ws.length
    · rw [List.getElem?_append_left c] at e
      exact h.2 j p e
    · rw [List.getElem?_append_right (by omega)] at e
      have : j - ws.length = 0 := by
        by_cases z : j - ws.length = 0
        · exact z
        · rw [List.getElem?_eq_none (by simp; omega)] at e
          cases e
      have ej : j = ws.length := by omega
      subst ej
      rw [Nat.sub_self] at e
      cases e
      rfl
theorem upper_ok (cl : List PD) (s m : Int) (k : Nat) (ws : Ks) (hl : ws.length = k) : ∃ u, (u = eS ∨ u ∈ ws.map (·.1)) ∧ sIf (bAnd (bOf (eOp gtD (rVar 3) (eC (.int 0)))) (bOf (eOp gtD (eOp modD (rVar 4) (eC (.int 4))) (eC (.int 0))))) (sSet 5 (eOp ixD (eOp ixD (rVar 2) (eOp modD (eOp divD (rVar 4) (eC (.int 4))) (rVar 3))) (eC (.int 0)))) sNext
      [some (.d (.list cl)), some (.d (.int s)), some (.o (.list (ws.map kI))), some (.d (.int k)), some (.d (.int m)), some (.d (.str eS))] = .nx [some (.d (.list cl)), some (.d (.int s)), some (.o (.list (ws.map kI))), some (.d (.int k)), some (.d (.int m)), some (.d (.str u))] := by
  have m4 := x_mod m 4 (by decide)
  have d4 := x_div m 4 (by decide) (by decide)
  by_cases k0 : (0 : Int) < (k : Int)
  · have k0n : 0 < k := Int.ofNat_lt.mp k0
    by_cases q : 0 < m % 4
    · have mk := x_mod (m / 4) (k : Int) k0
      have b0 : 0 ≤ m / 4 % (k : Int) := Int.emod_nonneg _ (by omega)
      have b1 : m / 4 % (k : Int) < k := Int.emod_lt_of_pos _ k0
      have lt : (m / 4 % (k : Int)).toNat < ws.length := by omega
      have e1 := x_ix_l (ws.map kI) (m / 4 % (k : Int)) (kI (ws[(m / 4 % (k : Int)).toNat]'lt)) b0 (by rw [List.getElem?_map, List.getElem?_eq_getElem lt]; rfl)
      have e2 := x_ix_t [.str (ws[(m / 4 % (k : Int)).toNat]'lt).1, .str (ws[(m / 4 % (k : Int)).toNat]'lt).2] 0 _ (by decide) rfl
      refine ⟨(ws[(m / 4 % (k : Int)).toNat]'lt).1, .inr (List.mem_map_of_mem (List.getElem_mem lt)), ?_⟩
      generalize ws[(m / 4 % (k : Int)).toNat]'lt = p at e1 e2
      rw [if_t (by simp [rVar, k0n, m4, q])]
      rw [set_ok (x := .str p.1) (by
        simp only [x_eOp, rVar, x_eC]
        simp [d4, mk, e1]
        exact e2)]
      rfl
    · refine ⟨eS, .inl rfl, ?_⟩
      rw [if_f (by simp [rVar, k0n, m4, q])]
      rfl
  · refine ⟨eS, .inl rfl, ?_⟩
    have k0n : ¬ 0 < k := fun z => k0 (Int.ofNat_lt.mpr z)
    rw [if_f (by simp [rVar, k0n])]
    rfl
theorem mix_step (cl : List PD) (k c m : Int) (s1 s2 y4 y5 : Option Sl) (hc : ixD (.list cl) (.int k) = .ok (.int c)) (em : d_law_mix [.int c, .int k, .int 1234567890123456789] = .rt (.d (.int m))) :
    sSet 4 (eCall 3 d_law_mix (aCons (eOp ixD (rVar 0) (rVar 3)) (aCons (eVar 3) (aCons (eC (.int 1234567890123456789)) aNil)))) [some (.d (.list cl)), s1, s2, some (.d (.int k)), y4, y5] = .nx [some (.d (.list cl)), s1, s2, some (.d (.int k)), some (.d (.int m)), y5] := by
  simp [rVar, eVar, hc, em, -x_run]
theorem kinds_turn (cl : List PD) (s : Int) (h0 : 0 ≤ s) (h1 : s < 2 ^ 62) (k : Nat) (c : Int) (hk : k < 12) (hc : ixD (.list cl) (.int (0 + (k : Int))) = .ok (.int c)) (ws : Ks) (hw : Ok s ws) (hl : ws.length = k) (y4 y5 : Option Sl) : ∃ ws' z4 z5, Ok s ws' ∧ ws'.length = k + 1 ∧
    (sSeq (sSet 4 (eCall 3 d_law_mix (aCons (eOp ixD (rVar 0) (rVar 3)) (aCons (eVar 3) (aCons (eC (.int 1234567890123456789)) aNil))))) (sSeq (sSet 5 (eC (.str (PySem.Str.ofString "")))) (sSeq (sIf (bAnd (bOf (eOp gtD (rVar 3) (eC (.int 0)))) (bOf (eOp gtD (eOp modD (rVar 4) (eC (.int 4))) (eC (.int 0))))) (sSet 5 (eOp ixD (eOp ixD (rVar 2) (eOp modD (eOp divD (rVar 4) (eC (.int 4))) (rVar 3))) (eC (.int 0)))) sNext) (sAppend 2 (eTup (aCons (eCall 2 d_law_name (aCons (eVar 3) (aCons (eVar 1) aNil))) (aCons (eVar 5) aNil)))))))
      [some (.d (.list cl)), some (.d (.int s)), some (.o (.list (ws.map kI))), some (.d (.int (0 + (k : Int)))), y4, y5] =
    .nx [some (.d (.list cl)), some (.d (.int s)), some (.o (.list (ws'.map kI))), some (.d (.int (0 + (k : Int)))), z4, z5] := by
  rw [show (0 + (k : Int)) = (k : Int) by omega] at *
  have em := law_mix c k 1234567890123456789 (Int.natCast_nonneg k) (Int.lt_of_lt_of_le (Int.ofNat_lt.mpr hk) (by decide)) (by decide) (by decide)
  have hm : 0 ≤ (c + (k : Int) * k + 1) * 1234567890123456789 % 2305843009213693951 := Int.emod_nonneg _ (by decide)
  generalize (c + (k : Int) * k + 1) * 1234567890123456789 % 2305843009213693951 = m at em hm
  have m4 := x_mod m 4 (by decide)
  have d4 := x_div m 4 (by decide) (by decide)
  rw [seq_nx (ρ1 := [some (.d (.list cl)), some (.d (.int s)), some (.o (.list (ws.map kI))), some (.d (.int k)), some (.d (.int m)), y5]) (mix_step cl k c m _ _ y4 y5 hc em)]
  rw [seq_nx (ρ1 := [some (.d (.list cl)), some (.d (.int s)), some (.o (.list (ws.map kI))), some (.d (.int k)), some (.d (.int m)), some (.d (.str eS))]) (by simp; rfl)]
  obtain ⟨u, hu, eu⟩ := upper_ok cl s m k ws hl
  rw [seq_nx eu]
  have en := law_name s k h0 h1 (by omega)
  have s2 : (2 : Nat) ≤ sizeLine := sz (by decide)
  refine ⟨ws ++ [(nm s ws.length, u)], some (.d (.int m)), some (.d (.str u)), hw.snoc h0 (by omega) u hu, by rw [List.length_append, List.length_singleton, hl], ?_⟩
  rw [append_ok (ds := ws.map kI) (x := kI (nm s ws.length, u)) rfl (by
    rw [hl]
    simp only [x_eTup, x_aCons, x_aNil, x_eCall, eVar]
    simp [en, s2, -x_run]
    rfl) (by rw [List.length_map]; exact szl (by omega)), List.map_append]
  rfl
theorem law_kinds (cells : List Int) (s : Int) (h0 : 0 ≤ s) (h1 : s < 2 ^ 62) (hl : cells.length ≤ 12) : ∃ ws : Ks, d_law_kinds [.list (cells.map PyData.int), .int s] = .rt (.o (kD ws)) ∧ Gr ws.reverse ∧ (∀ p ∈ ws, ∃ j, p.1 = nm s j) ∧ ws.length = cells.length := by
  show ∃ ws : Ks, (S_law_kinds [some (.d (.list (cells.map PyData.int))), some (.d (.int s)), none, none, none, none]).fr = _ ∧ _
  unfold S_law_kinds
  rw [seq_nx (ρ1 := [some (.d (.list (cells.map PyData.int))), some (.d (.int s)), some (.o (.list (([] : Ks).map kI))), none, none, none]) (by simp)]
  rw [x_sSeq, x_preK, x_sFor]
  simp only [List.foldl_cons, List.foldl_nil, List.set_cons_succ, List.set_cons_zero]
  have e1 : (iRng1D (aCons (eCB lenD (aCons (rVar 0) aNil)) aNil)) [some (.d (.list (cells.map PyData.int))), some (.d (.int s)), some (.o (.list (([] : Ks).map kI))), none, none, none] = .ok (rngD 0 cells.length) := by
    show (R.ok [PyData.int ((cells.map PyData.int).length : Nat)]).bind rng1 = _
    rw [x_bind_ok, List.length_map]
    exact rng_ok _ (by omega)
  rw [e1, x_of_ok]
  refine forD_by (P := fun r => ∃ ws : Ks, (r.seq (sRetV 2)).fr = .rt (.o (kD ws)) ∧ Gr ws.reverse ∧ (∀ p ∈ ws, ∃ j, p.1 = nm s j) ∧ ws.length = cells.length)
    (fun i ρ => ∃ (ws : Ks) (y3 y4 y5 : Option Sl), Ok s ws ∧ ws.length = i ∧ ρ = [some (.d (.list (cells.map PyData.int))), some (.d (.int s)), some (.o (.list (ws.map kI))), y3, y4, y5]) ⟨[], none, none, none, ⟨True.intro, fun j p e => by simp at e⟩, rfl, rfl⟩ ?_ ?_
  · rintro i x ρ hx ⟨ws, y3, y4, y5, q1, q2, rfl⟩
    obtain ⟨hi, rfl⟩ := rng_get hx
    refine ⟨_, rfl, ?_⟩
    have hc := x_ix_l (cells.map PyData.int) (0 + (i : Int)) (.int (cells[i]'hi)) (by omega) (by
      rw [show (0 + (i : Int)).toNat = i by omega, List.getElem?_map, List.getElem?_eq_getElem hi]
      rfl)
    obtain ⟨ws', z4, z5, o1, o2, e⟩ := kinds_turn (cells.map PyData.int) s h0 h1 i (cells[i]'hi) (by omega) hc ws q1 q2 y4 y5
    simp only [List.set]
    rw [x_killS, e]
    exact ⟨ws', _, _, _, o1, o2, rfl⟩
  · rintro ρ ⟨ws, y3, y4, y5, q1, q2, rfl⟩
    refine ⟨ws, rfl, q1.1, fun p hp => let ⟨j, hj⟩ := List.getElem?_of_mem hp; ⟨j, q1.2 j p hj⟩, ?_⟩
    rw [q2, rngD, List.length_map, List.length_range]
def m1 : PD → PD
  | .int c => .int (c % 1000003)
  | d => d
theorem law_salt (ns : List Int) (h : ns.length ≤ 63) : ∃ s : Int, 0 ≤ s ∧ s < 2 ^ 62 ∧ d_law_salt [.list (ns.map PyData.int), .int 487654321987654321] = .rt (.d (.int s)) := by
  have hm := law_mix (ns.map fun c => c % 1000003).sum ((ns.length : Int) % 64) 487654321987654321 (by omega) (by omega) (by decide) (by decide)
  refine ⟨((ns.map fun c => c % 1000003).sum + (ns.length : Int) % 64 * ((ns.length : Int) % 64) + 1) * 487654321987654321 % 2305843009213693951, Int.emod_nonneg _ (by decide), Int.lt_trans (Int.emod_lt_of_pos _ (by decide)) (by decide), ?_⟩
  · show (S_law_salt [some (.d (.list (ns.map PyData.int))), some (.d (.int 487654321987654321)), none]).fr = _
    unfold S_law_salt
    have e := lcL_map (h := lcE (aName 2) gYes (eOp modD (rVar 2) (eC (.int 1000003))) [some (.d (.list (ns.map PyData.int))), some (.d (.int 487654321987654321)), none]) (xs := ns.map PyData.int) (f := m1) (fun x hx => by
      obtain ⟨c, _, rfl⟩ := List.mem_map.mp hx
      simp [lcE, rVar, x_mod c 1000003 (by decide)]
      rfl)
    have e2 : (ns.map PyData.int).map m1 = (ns.map fun c => c % 1000003).map PyData.int := by
      rw [List.map_map, List.map_map]
      rfl
    rw [e2] at e
    have l64 := x_mod (ns.length : Int) 64 (by decide)
    have hl : (ns.map fun c => c % 1000003).length ≤ sizeLine := sz (by rw [List.length_map]; omega)
    rw [ret_ok (x := .int (((ns.map fun c => c % 1000003).sum + (ns.length : Int) % 64 * ((ns.length : Int) % 64) + 1) * 487654321987654321 % 2305843009213693951))]
    · rfl
    · have e5 : eFz (oLc (iItems (eSl (rVar 0) pNo (pSo (eC (.int 63))))) (aName 2) gYes (eOp modD (rVar 2) (eC (.int 1000003))) [2]) [some (.d (.list (ns.map PyData.int))), some (.d (.int 487654321987654321)), none] = .ok (.list ((ns.map fun c => c % 1000003).map PyData.int)) := by
        simp only [x_eFz, x_oLc, x_iItems, x_eSl, rVar, x_pNo, x_pSo, x_eC]
        simp only [List.getElem?_cons_zero, x_bind_ok, x_asI, x_sl_l, cut63 ns h, x_items_l, x_wipe_cons, x_wipe_nil]
        show ((noExc (lcL (lcE (aName 2) gYes (eOp modD (rVar 2) (eC (.int 1000003))) [some (.d (.list (ns.map PyData.int))), some (.d (.int 487654321987654321)), none]) (ns.map PyData.int))).bind _).bind _ = _
        rw [e]
        show (if ((ns.map fun c => c % 1000003).map PyData.int).length ≤ sizeLine then R.ok (PyData.list ((ns.map fun c => c % 1000003).map PyData.int)) else .bad).bind notDict = _
        rw [if_pos (by rw [List.length_map]; exact hl)]
        rfl
      refine call3 ((cb1 e5).trans (x_sum _)) ((op_ok ((cb1 (a := .list (ns.map PyData.int)) rfl).trans ?_) (x_eC _ _)).trans l64) rfl hm
      show R.ok (PyData.int ((ns.map PyData.int).length : Nat)) = _
      rw [List.length_map]
def smallL : List Nat := [97, 98, 99, 100, 101, 102, 103, 104, 105, 106, 107, 108, 109, 110, 111, 112, 113, 114, 115, 116, 117, 118, 119, 120, 121, 122]
def figL : List Nat := [48, 49, 50, 51, 52, 53, 54, 55, 56, 57]
theorem small_cps : (Str.ofString "abcdefghijklmnopqrstuvwxyz").cps.toList = smallL := by decide +kernel
theorem fig_cps : (Str.ofString "0123456789").cps.toList = figL := by decide +kernel
theorem small_cs : cs (Str.ofString "abcdefghijklmnopqrstuvwxyz") = smallL := small_cps
theorem fig_cs : cs (Str.ofString "0123456789") = figL := fig_cps
def allIn (l w : List Nat) : Bool := l.all fun c => decide (c ∈ w)
theorem allIn_cons (c : Nat) (l w : List Nat) : allIn (c :: l) w = (decide (c ∈ w) && allIn l w) := rfl
theorem signs_loop (w : Str) (z : PD) : ∀ (l : List Nat) (x : Option Sl), ∃ y,
    forD (aName 2) (killS [2] (sIf (bOf (eOp ninD (rVar 2) (rVar 1))) (sRet (eC (.bool false))) sNext)) (l.map fun c => .str (sg c)) [some (.d z), some (.d (.str w)), x] =
      if allIn l (cs w) = true then .nx [some (.d z), some (.d (.str w)), y] else .rt (.d (.bool false))
  | [], x => ⟨x, rfl⟩
  | c :: l, x => by
    obtain ⟨y, ih⟩ := signs_loop w z l none
    rw [List.map_cons]
    unfold forD
    by_cases h : c ∈ cs w
    · refine ⟨y, ?_⟩
      simp [rVar, h, ih, allIn_cons]
    · refine ⟨x, ?_⟩
      simp [rVar, h, allIn_cons]
theorem signs_among (z w : Str) : d_signs_among [.str z, .str w] = .rt (.d (.bool (allIn (cs z) (cs w)))) := by
  obtain ⟨y, e⟩ := signs_loop w (.str z) (cs z) none
  simp [d_signs_among, S_signs_among, startD, eVar, e]
  by_cases h : allIn (cs z) (cs w) = true <;> simp [h]
def isW (z : Str) : Bool := decide (1 ≤ (z.length : Int)) && (decide ((z.length : Int) ≤ 8) && (!decide (z ∈ kw_KEPT) && allIn (cs z) smallL))
theorem inK_s (xs : List Str) (g : Rho → R PD) (ρ : Rho) (z : Str) (h : g ρ = .ok (.str z)) : eInK xs g ρ = .ok (.bool (decide (z ∈ xs))) := by
  unfold eInK
  rw [h]
  show (if flatP (.str z) = true then R.ok (PyData.bool ((xs.map PyData.str).any fun d => eqF d (.str z))) else R.bad) = _
  rw [if_pos (show flatP (.str z) = true from rfl), any_strs]
theorem is_word (z : Str) (hz : z.length ≤ 16777216) : d_is_word [.str z] = .rt (.d (.bool (isW z))) := by
  have h1 := sz hz
  simp only [d_is_word, S_is_word, startD, x_run]
  simp [rVar, eVar, h1, signs_among, small_cs]
  unfold isW
  by_cases a : 1 ≤ (z.length : Int) <;> by_cases b : (z.length : Int) ≤ 8 <;> by_cases c : z ∈ kw_KEPT <;> simp [a, b, c, eVar, signs_among, small_cs, inK_s _ (rVar 0) [some (.d (.str z))] z rfl]
end K05
namespace K05
open PySem L2 DL
def keptBad (l : List Nat) : Bool := (l.all fun c => decide (c ≠ 113)) && !(decide (l = List.replicate l.length (l.headD 0)) && decide (98 ≤ l.headD 0))
theorem keptNot : kw_KEPT.all (fun z => keptBad (cs z)) = true := by decide +kernel
theorem tT_in (s : Int) (k : Nat) : 98 ≤ tT s k ∧ tT s k ≤ 122 := by unfold tT; omega
theorem nm_bad (s : Int) (k : Nat) (h : 0 ≤ s) : keptBad (nmL s k) = false := by
  have ht := tT_in s k
  unfold nmL
  split
  · unfold keptBad
    simp [ht.1]
  · split
    · obtain ⟨n, e⟩ : ∃ n, (1 + (3 * (k : Int) + s / 35) % 8).toNat = n + 1 := ⟨(1 + (3 * (k : Int) + s / 35) % 8).toNat - 1, by omega⟩
      rw [e]
      unfold keptBad
      have h1 : (List.replicate (n + 1) (98 + (s / 5 % 7).toNat)).headD 0 = 98 + (s / 5 % 7).toNat := rfl
      rw [h1, List.length_replicate]
      have h2 : decide (98 ≤ 98 + (s / 5 % 7).toNat) = true := decide_eq_true (by omega)
      rw [h2]
      simp
    · unfold keptBad
      have : (List.all (List.replicate (s / 35 % (2 + s / 5 % 7 - 1)).toNat (98 + (s / 245 % 25).toNat) ++ [tT s k] ++ [113] ++ List.replicate (2 + s / 5 % 7 - s / 35 % (2 + s / 5 % 7 - 1) - 2).toNat (98 + (s / 6125 % 25).toNat)) fun c => decide (c ≠ 113)) = false := by
        rw [List.all_eq_false]
        exact ⟨113, by simp, by decide⟩
      rw [this]
      rfl
theorem nm_chars (s : Int) (k : Nat) (h : 0 ≤ s) : ∀ x ∈ nmL s k, 97 ≤ x ∧ x ≤ 122 := by
  intro x hx
  have ht := tT_in s k
  unfold nmL at hx
  split at hx
  · rw [List.mem_singleton] at hx
    omega
  · split at hx
    · have := (List.mem_replicate.mp hx).2
      omega
    · simp only [List.mem_append, List.mem_singleton] at hx
      rcases hx with ((hx | hx) | hx) | hx
      · have := (List.mem_replicate.mp hx).2
        omega
      · omega
      · omega
      · have := (List.mem_replicate.mp hx).2
        omega
theorem nm_size (s : Int) (k : Nat) (h : 0 ≤ s) : 1 ≤ (nmL s k).length ∧ (nmL s k).length ≤ 8 := by
  have hz : 0 ≤ s / 35 % (2 + s / 5 % 7 - 1) ∧ s / 35 % (2 + s / 5 % 7 - 1) < 2 + s / 5 % 7 - 1 := ⟨Int.emod_nonneg _ (by omega), Int.emod_lt_of_pos _ (by omega)⟩
  unfold nmL
  split
  · exact ⟨Nat.le_refl _, by simp⟩
  · split
    · rw [List.length_replicate]
      omega
    · generalize s / 35 % (2 + s / 5 % 7 - 1) = sp at hz
      have s2 : 2 + s / 5 % 7 ≤ 8 ∧ 2 ≤ 2 + s / 5 % 7 := by omega
      generalize 2 + s / 5 % 7 = S at hz s2
      simp only [List.length_append, List.length_replicate, List.length_singleton]
      omega
structure Wc (z : Str) : Prop where
  ch : ∀ c ∈ cs z, 33 ≤ c ∧ c ≤ 122
  lo : 1 ≤ z.length
  hi : z.length ≤ 31
theorem nm_len (s : Int) (k : Nat) (h : 0 ≤ s) : 1 ≤ (nm s k).length ∧ (nm s k).length ≤ 8 := by
  have l := nm_size s k h
  have e : (nm s k).length = (nmL s k).length := by rw [← cs_len, nm_cs]
  omega
theorem nm_wc (s : Int) (k : Nat) (h : 0 ≤ s) : Wc (nm s k) := by
  have l := nm_len s k h
  exact ⟨fun c hc => by have := nm_chars s k h c (by rw [← nm_cs]; exact hc); omega, by omega, by omega⟩
theorem in_small {c : Nat} (h : 97 ≤ c ∧ c ≤ 122) : c ∈ smallL := by
  have all : (List.range' 97 26).all (fun c => decide (c ∈ smallL)) = true := by decide +kernel
  exact of_decide_eq_true (List.all_eq_true.mp all c (List.mem_range'.mpr ⟨c - 97, by omega, by omega⟩))
theorem nm_word (s : Int) (k : Nat) (h : 0 ≤ s) : isW (nm s k) = true := by
  have w := nm_len s k h
  have nk : nm s k ∉ kw_KEPT := fun q => by
    have := List.all_eq_true.mp keptNot _ q
    rw [nm_cs, nm_bad s k h] at this
    cases this
  have al : allIn (cs (nm s k)) smallL = true := by
    unfold allIn
    exact List.all_eq_true.mpr fun c hc => decide_eq_true (in_small (nm_chars s k h c (by rw [← nm_cs]; exact hc)))
  have h1 : (1 : Int) ≤ ((nm s k).length : Int) := by omega
  have h2 : ((nm s k).length : Int) ≤ 8 := by omega
  unfold isW
  rw [decide_eq_true h1, decide_eq_true h2, decide_eq_false nk, al]
  rfl
theorem strOk_wc {z : Str} (w : Wc z) : PyData.strOk z = true := by
  unfold PyData.strOk
  rw [← Array.all_toList]
  refine List.all_eq_true.mpr fun c hc => decide_eq_true ?_
  have := w.ch c hc
  omega
def nl : Str := Str.ofString "\n"
def eI (q : Nat × Str) : PD := .tuple [.int (q.1 : Nat), .str q.2]
def rI (q : Nat × List Str) : PD := .tuple [.int (q.1 : Nat), .list (q.2.map PyData.str)]
def enumP : Nat → List Str → List (Nat × Str)
  | _, [] => []
  | n, l :: ls => (n, l) :: enumP (n + 1) ls
theorem enum_eq : ∀ (ls : List Str) (n : Nat), ((ls.map PyData.str).zipIdx n).map (fun p => PyData.tuple [.int (p.2 : Nat), p.1]) = (enumP n ls).map eI
  | [], _ => rfl
  | l :: ls, n => by
    rw [List.map_cons, List.zipIdx_cons, List.map_cons, enum_eq ls (n + 1)]
    rfl
theorem enumP_snd : ∀ (ls : List Str) (n : Nat), (enumP n ls).map (·.2) = ls
  | [], _ => rfl
  | l :: ls, n => by
    show l :: (enumP (n + 1) ls).map (·.2) = _
    rw [enumP_snd]
def keepW (prs : List (Nat × Str)) : List (Nat × List Str) := (prs.map fun q => (q.1, Txt.words q.2)).filter fun q => decide (q.2 ≠ [])
theorem words_ne (l : List Str) (h : ∀ w ∈ l, PyData.strOk w = true) : neD (.list (l.map PyData.str)) (.list []) = .ok (.bool (decide (l ≠ []))) := by
  have can : ∀ l : List Str, (∀ w ∈ l, PyData.strOk w = true) → PyData.canLayAll0 (l.map PyData.str) = true ∧ PyData.depthAll (l.map PyData.str) = 0 := by
    intro l
    induction l with
    | nil => intro _; exact ⟨by simp [PyData.canLayAll0], by simp [PyData.depthAll]⟩
    | cons x l ih =>
      intro h
      obtain ⟨a, b⟩ := ih fun w hw => h w (List.mem_cons_of_mem _ hw)
      have c := h x List.mem_cons_self
      rw [List.map_cons]
      exact ⟨by simp [PyData.canLayAll0, PyData.canLay0, a, c], by simp [PyData.depthAll, PyData.depth, b]⟩
  obtain ⟨a, b⟩ := can l h
  have s1 : SeqAt.shaped (.list (l.map PyData.str)) = true := by
    unfold SeqAt.shaped
    simp only [PyData.canLay0, PyData.depth, a, b]
    decide
  have s2 : SeqAt.shaped (.list []) = true := by
    unfold SeqAt.shaped
    simp only [PyData.canLay0, PyData.depth, PyData.canLayAll0, PyData.depthAll]
    decide
  rw [x_ne]
  show (if SeqAt.shaped (.list (l.map PyData.str)) = true ∧ SeqAt.shaped (.list []) = true then R.ok (PyData.eqv (.list (l.map PyData.str)) (.list [])) else .bad).bind _ = _
  rw [if_pos ⟨s1, s2⟩]
  cases l with
  | nil => simp [PyData.eqv, PyData.eqvAll]
  | cons x l => simp [PyData.eqv, PyData.eqvAll]
theorem rows_loop (zd : PD) : ∀ (prs : List (Nat × Str)) (acc : List (Nat × List Str)) (y2 y3 y4 : Option Sl), (∀ q ∈ prs, q.2.length ≤ 1000 ∧ ∀ w ∈ Txt.words q.2, PyData.strOk w = true) → acc.length + prs.length ≤ 1000 → ∃ z2 z3 z4,
    forD (aTup 2 (asCons (aName 2) (asCons (aName 3) asNil))) (killS [2, 3, 4] (sSeq (sSet 4 (eFz (eM0 wordsD (rVar 3)))) (sIf (bOf (eOp neD (rVar 4) (eFz (oLst aNil)))) (sAppend 1 (eTup (aCons (eVar 2) (aCons (eVar 4) aNil)))) sNext))) (prs.map eI)
      [some (.d zd), some (.o (.list (acc.map rI))), y2, y3, y4] = .nx [some (.d zd), some (.o (.list ((acc ++ keepW prs).map rI))), z2, z3, z4]
  | [], acc, y2, y3, y4, _, _ => ⟨y2, y3, y4, by unfold keepW; simp [forD]⟩
  | q :: prs, acc, y2, y3, y4, h, hl => by
    rw [List.length_cons] at hl
    obtain ⟨hq, hw⟩ := h q List.mem_cons_self
    have h' := fun r hr => h r (List.mem_cons_of_mem _ hr)
    have ne := words_ne (Txt.words q.2) hw
    have sl : q.2.length + 2 ≤ sizeLine := sz (by omega)
    have s2 : (2 : Nat) ≤ sizeLine := sz (by decide)
    rw [List.map_cons]
    unfold forD
    have ea : aTup 2 (asCons (aName 2) (asCons (aName 3) asNil)) [some (.d zd), some (.o (.list (acc.map rI))), y2, y3, y4] (eI q) = .ok [some (.d zd), some (.o (.list (acc.map rI))), some (.d (.int (q.1 : Nat))), some (.d (.str q.2)), y4] := rfl
    rw [ea]
    simp only
    have e4 : sSet 4 (eFz (eM0 wordsD (rVar 3))) [some (.d zd), some (.o (.list (acc.map rI))), some (.d (.int (q.1 : Nat))), some (.d (.str q.2)), y4] = .nx [some (.d zd), some (.o (.list (acc.map rI))), some (.d (.int (q.1 : Nat))), some (.d (.str q.2)), some (.d (.list ((Txt.words q.2).map PyData.str)))] := by
      rw [set_ok (x := .list ((Txt.words q.2).map PyData.str))]
      · rfl
      · simp only [x_eFz, x_eM0, rVar, List.getElem?_cons_succ, List.getElem?_cons_zero, x_bind_ok, x_strOf, x_words, if_pos sl]
        rfl
    rw [x_killS, seq_nx e4]
    have eq : eOp neD (rVar 4) (eFz (oLst aNil)) [some (.d zd), some (.o (.list (acc.map rI))), some (.d (.int (q.1 : Nat))), some (.d (.str q.2)), some (.d (.list ((Txt.words q.2).map PyData.str)))] = .ok (.bool (decide (Txt.words q.2 ≠ []))) := by
      have e0 : eFz (oLst aNil) [some (.d zd), some (.o (.list (acc.map rI))), some (.d (.int (q.1 : Nat))), some (.d (.str q.2)), some (.d (.list ((Txt.words q.2).map PyData.str)))] = .ok (.list []) := by simp
      rw [op_ok rfl e0]
      exact ne
    by_cases c : Txt.words q.2 = []
    · have cd : decide (Txt.words q.2 ≠ []) = false := decide_eq_false fun z => z c
      rw [cd] at eq
      rw [if_f (bof eq)]
      obtain ⟨z2, z3, z4, ih⟩ := rows_loop zd prs acc none none none h' (by omega)
      have ek : keepW (q :: prs) = keepW prs := by
        unfold keepW
        rw [List.map_cons, List.filter_cons, if_neg (by simpa using c)]
      rw [ek]
      exact ⟨z2, z3, z4, ih⟩
    · have cd : decide (Txt.words q.2 ≠ []) = true := decide_eq_true c
      rw [cd] at eq
      rw [if_t (bof eq)]
      rw [append_ok (ds := acc.map rI) (x := rI (q.1, Txt.words q.2)) rfl (by simp [eVar, s2, rI]) (by rw [List.length_map]; exact szl (by omega))]
      obtain ⟨z2, z3, z4, ih⟩ := rows_loop zd prs (acc ++ [(q.1, Txt.words q.2)]) none none none h' (by rw [List.length_append, List.length_singleton]; omega)
      have ek : acc ++ keepW (q :: prs) = acc ++ [(q.1, Txt.words q.2)] ++ keepW prs := by
        unfold keepW
        rw [List.map_cons, List.filter_cons, if_pos (by simpa using c), List.append_assoc]
        rfl
      refine ⟨z2, z3, z4, ?_⟩
      rw [ek]
      simp only [List.set]
      rw [show acc.map rI ++ [rI (q.1, Txt.words q.2)] = (acc ++ [(q.1, Txt.words q.2)]).map rI by rw [List.map_append]; rfl]
      exact ih
theorem keepW_snd (prs : List (Nat × Str)) : (keepW prs).map (·.2) = ((prs.map (·.2)).map Txt.words).filter fun l => decide (l ≠ []) := by
  unfold keepW
  induction prs with
  | nil => rfl
  | cons q prs ih =>
    rw [List.map_cons, List.map_cons, List.map_cons, List.filter_cons, List.filter_cons]
    by_cases c : Txt.words q.2 = []
    · rw [if_neg (by simpa using c), if_neg (by simpa using c)]
      exact ih
    · rw [if_pos (by simpa using c), if_pos (by simpa using c), List.map_cons, ih]
theorem keepW_rows (lines : List Str) : (keepW (enumP 0 lines)).map (·.2) = (lines.map Txt.words).filter fun l => decide (l ≠ []) := by rw [keepW_snd, enumP_snd]
theorem word_rows (z : Str) (lines : List Str) (e : Txt.split z nl = lines) (hz : z.length ≤ 200000) (h : ∀ l ∈ lines, l.length ≤ 1000 ∧ ∀ w ∈ Txt.words l, PyData.strOk w = true) (hn : lines.length ≤ 1000) :
    d_word_rows [.str z] = .rt (.o (.list ((keepW (enumP 0 lines)).map rI))) := by
  have s1 : z.length + 2 ≤ sizeLine := sz (by omega)
  have n1 : (nl.length == 0) = false := by decide +kernel
  have s0 : (0 : Nat) ≤ sizeLine := Nat.zero_le _
  obtain ⟨z2, z3, z4, el⟩ := rows_loop (.str z) (enumP 0 lines) [] none none none (fun q hq => h q.2 (by
      have := List.mem_map_of_mem (f := (·.2)) hq
      rwa [enumP_snd] at this)) (by
      have := congrArg List.length (enumP_snd lines 0)
      rw [List.length_map] at this
      simp
      omega)
  show (S_word_rows [some (.d (.str z)), none, none, none, none]).fr = _
  unfold S_word_rows
  rw [seq_nx (ρ1 := [some (.d (.str z)), some (.o (.list (([] : List (Nat × List Str)).map rI))), none, none, none]) (by simp)]
  rw [seq_nx (ρ1 := [some (.d (.str z)), some (.o (.list (([] ++ keepW (enumP 0 lines)).map rI))), z2, z3, z4]) (by
    rw [x_preK, x_sFor]
    simp only [List.foldl_cons, List.foldl_nil, List.set_cons_succ, List.set_cons_zero]
    have ei : iEnumD (aCons (eFz (eM1 splitD (rVar 0) (eC (.str (PySem.Str.ofString "\n"))))) aNil) [some (.d (.str z)), some (.o (.list (([] : List (Nat × List Str)).map rI))), none, none, none] = .ok ((enumP 0 lines).map eI) := by
      have es : eFz (eM1 splitD (rVar 0) (eC (.str (PySem.Str.ofString "\n")))) [some (.d (.str z)), some (.o (.list (([] : List (Nat × List Str)).map rI))), none, none, none] = .ok (.list (lines.map PyData.str)) := by
        simp only [x_eFz, x_eM1, rVar, x_eC, List.getElem?_cons_zero, x_bind_ok, x_strOf, x_split]
        rw [if_pos ⟨n1, s1⟩]
        show R.ok (PyData.list ((Txt.split z nl).map PyData.str)) = _
        rw [e]
      rw [x_iEnum, x_aCons, es, x_bind_ok, x_aNil, x_bind_ok, x_bind_ok, x_enumO]
      unfold enumD
      rw [enum_eq]
    rw [ei, x_of_ok]
    exact el)]
  rfl
end K05
namespace K05
open PySem L2 DL
theorem sp32 : Unicode.isSpace 32 = true := by decide +kernel
theorem nospace {c : Nat} (h : 33 ≤ c ∧ c ≤ 122) : Unicode.isSpace c = false := by
  have all : (List.range' 33 90).all (fun c => !Unicode.isSpace c) = true := by decide +kernel
  have := List.all_eq_true.mp all c (List.mem_range'.mpr ⟨c - 33, by omega, by omega⟩)
  simpa using this
abbrev wfold (l : List Nat) : List (List Nat) × List Nat := l.foldl TL.wstep ([], [])
theorem fold_spaces : ∀ (n : Nat) (ws : List (List Nat)), (List.replicate n 32).foldl TL.wstep (ws, []) = (ws, [])
  | 0, _ => rfl
  | n + 1, ws => by
    rw [List.replicate_succ, List.foldl_cons]
    have e : TL.wstep (ws, []) 32 = (ws, []) := by
      unfold TL.wstep
      rw [if_pos sp32]
      rfl
    rw [e]
    exact fold_spaces n ws
theorem fold_word (w : Str) (hw : Wc w) (n : Nat) (hn : 1 ≤ n) (ws : List (List Nat)) : (cs w ++ List.replicate n 32).foldl TL.wstep (ws, []) = (ws ++ [cs w], []) := by
  rw [List.foldl_append, TL.wfold_word (cs w) ws [] fun c hc => nospace (hw.ch c hc), List.nil_append]
  obtain ⟨m, rfl⟩ : ∃ m, n = m + 1 := ⟨n - 1, by omega⟩
  rw [List.replicate_succ, List.foldl_cons]
  have ne : cs w ≠ [] := by
    intro q
    have := cs_len w
    rw [q] at this
    have := hw.lo
    simp at *
    omega
  have e : TL.wstep (ws, cs w) 32 = (ws ++ [cs w], []) := by
    unfold TL.wstep
    rw [if_pos sp32, if_neg ne]
  rw [e]
  exact fold_spaces m _
structure Ln (z : Str) (ws : List Str) (n : Nat) : Prop where
  f : wfold (cs z) = (ws.map cs, [])
  no : ∀ c ∈ cs z, c ≠ 10
  len : z.length ≤ n
theorem sp_str : Str.ofString " " = sg 32 := by decide +kernel
theorem Ln.spaces (k : Int) (n : Nat) (h : k ≤ n) : Ln (mulS (sg 32) k) [] n := by
  have e : cs (mulS (sg 32) k) = List.replicate k.toNat 32 := mulS_sg 32 k
  refine ⟨?_, fun c hc => ?_, ?_⟩
  · unfold wfold
    rw [e]
    exact fold_spaces _ _
  · rw [e] at hc
    have := (List.mem_replicate.mp hc).2
    omega
  · rw [mulS_len, sg_len]
    omega
theorem Ln.word {z : Str} {ws : List Str} {n : Nat} (h : Ln z ws n) (w : Str) (hw : Wc w) (k : Int) (h1 : 1 ≤ k) (h2 : k ≤ 2) : Ln (z ++ w ++ mulS (sg 32) k) (ws ++ [w]) (n + 34) := by
  have e : cs (mulS (sg 32) k) = List.replicate k.toNat 32 := mulS_sg 32 k
  refine ⟨?_, fun c hc => ?_, ?_⟩
  · unfold wfold
    rw [cs_app, cs_app, e, List.append_assoc, List.foldl_append]
    have := h.f
    unfold wfold at this
    rw [this, fold_word w hw _ (by omega), List.map_append]
    rfl
  · rw [cs_app, cs_app, e] at hc
    rcases List.mem_append.mp hc with q | q
    · rcases List.mem_append.mp q with q | q
      · exact h.no c q
      · have := hw.ch c q
        omega
    · have := (List.mem_replicate.mp q).2
      omega
  · rw [len_app, len_app, mulS_len, sg_len]
    have := h.len
    have := hw.hi
    omega
theorem Ln.words {z : Str} {ws : List Str} {n : Nat} (h : Ln z ws n) : Txt.words z = ws := by
  have e := TL.words_tl z
  have f := h.f
  unfold wfold at f
  rw [show TL.tl z = cs z from rfl, f] at e
  have e : (Txt.words z).map cs = ws.map cs := e
  have go : ∀ a b : List Str, a.map cs = b.map cs → a = b := by
    intro a
    induction a with
    | nil =>
      intro b hb
      cases b with
      | nil => rfl
      | cons _ _ => cases hb
    | cons x a ih =>
      intro b hb
      cases b with
      | nil => cases hb
      | cons y b =>
        rw [List.map_cons, List.map_cons] at hb
        injection hb with h1 h2
        rw [cs_ext h1, ih b h2]
  exact go _ _ e
theorem x_mul_sp (k : Int) (h : 0 ≤ k) (h2 : k ≤ 10) : mulD (.str (Str.ofString " ")) (.int k) = .ok (.str (mulS (sg 32) k)) := by
  rw [sp_str]
  exact x_mul_s (sg 32) k (by omega) (by omega) (sz (by rw [sg_len]; omega))
theorem line_loop (s0 s1 s2 s3 : Option Sl) : ∀ (ws : List Str) (m : Int) (z : Str) (done : List Str) (n : Nat) (y6 : Option Sl), 0 ≤ m → (∀ w ∈ ws, Wc w) → Ln z done n → n + 34 * ws.length ≤ 1000 → ∃ m' z' z6, 0 ≤ m' ∧ Ln z' (done ++ ws) (n + 34 * ws.length) ∧
    forD (aName 6) (killS [6] (sSeq (sSet 5 (eOp addD (eOp addD (rVar 5) (rVar 6)) (eOp mulD (eC (.str (PySem.Str.ofString " "))) (eOp addD (eC (.int 1)) (eOp modD (eOp divD (rVar 4) (eC (.int 3))) (eC (.int 2))))))) (sSet 4 (eOp divD (rVar 4) (eC (.int 2)))))) (ws.map PyData.str)
      [s0, s1, s2, s3, some (.d (.int m)), some (.d (.str z)), y6] = .nx [s0, s1, s2, s3, some (.d (.int m')), some (.d (.str z')), z6]
  | [], m, z, done, n, y6, hm, _, hz, _ => ⟨m, z, y6, hm, by rw [List.append_nil]; exact hz, rfl⟩
  | w :: ws, m, z, done, n, y6, hm, hw, hz, hn => by
    rw [List.length_cons] at hn
    have w1 := hw w List.mem_cons_self
    have q := hz.word w w1 (1 + m / 3 % 2) (by omega) (by omega)
    obtain ⟨m', z', z6, i1, i2, ih⟩ := line_loop s0 s1 s2 s3 ws (m / 2) _ (done ++ [w]) (n + 34) none (by omega) (fun v hv => hw v (List.mem_cons_of_mem _ hv)) q (by omega)
    refine ⟨m', z', z6, i1, ?_, ?_⟩
    · rw [List.append_assoc] at i2
      have e : n + 34 + 34 * ws.length = n + 34 * (w :: ws).length := by rw [List.length_cons]; omega
      rw [← e]
      exact i2
    · rw [List.map_cons]
      unfold forD
      rw [x_aName]
      simp only [List.set]
      have l0 := hz.len
      have l1 := w1.hi
      have a1 : z.length + w.length ≤ sizeLine := sz (by omega)
      have a2 : (z ++ w).length + (mulS (sg 32) (1 + m / 3 % 2)).length ≤ sizeLine := sz (by rw [len_app, mulS_len, sg_len]; omega)
      have d3 := x_div m 3 (by decide) (by decide)
      have d2 := x_div m 2 (by decide) (by decide)
      have m2 := x_mod (m / 3) 2 (by decide)
      have em : eOp mulD (eC (.str (PySem.Str.ofString " "))) (eOp addD (eC (.int 1)) (eOp modD (eOp divD (rVar 4) (eC (.int 3))) (eC (.int 2)))) [s0, s1, s2, s3, some (.d (.int m)), some (.d (.str z)), some (.d (.str w))] = .ok (.str (mulS (sg 32) (1 + m / 3 % 2))) :=
        (op_ok (a := .str (Str.ofString " ")) (b := .int (1 + m / 3 % 2)) rfl ((op_ok (a := .int 1) (b := .int (m / 3 % 2)) rfl ((op_ok (a := .int (m / 3)) (b := .int 2) ((op_ok (a := .int m) (b := .int 3) rfl rfl).trans d3) rfl).trans m2)).trans (x_add_i _ _))).trans (x_mul_sp _ (by omega) (by omega))
      have e5 : sSet 5 (eOp addD (eOp addD (rVar 5) (rVar 6)) (eOp mulD (eC (.str (PySem.Str.ofString " "))) (eOp addD (eC (.int 1)) (eOp modD (eOp divD (rVar 4) (eC (.int 3))) (eC (.int 2)))))) [s0, s1, s2, s3, some (.d (.int m)), some (.d (.str z)), some (.d (.str w))] = .nx [s0, s1, s2, s3, some (.d (.int m)), some (.d (.str (z ++ w ++ mulS (sg 32) (1 + m / 3 % 2)))), some (.d (.str w))] := by
        rw [set_ok (x := .str (z ++ w ++ mulS (sg 32) (1 + m / 3 % 2)))]
        · rfl
        · rw [op_ok (a := .str (z ++ w)) (b := .str (mulS (sg 32) (1 + m / 3 % 2))) ((op_ok (a := .str z) (b := .str w) rfl rfl).trans (by rw [x_add_s, if_pos a1])) em, x_add_s, if_pos a2]
      rw [x_killS, seq_nx e5, set_ok (x := .int (m / 2)) ((op_ok (a := .int m) (b := .int 2) rfl rfl).trans d2)]
      exact ih
structure TL2 (lines : List Str) (rows : List (List Str)) : Prop where
  w : (lines.map Txt.words).filter (fun l => decide (l ≠ [])) = rows
  ok : ∀ l ∈ lines, (∀ c ∈ cs l, c ≠ 10) ∧ l.length ≤ 300
theorem TL2.row {lines : List Str} {rows : List (List Str)} (h : TL2 lines rows) {z : Str} {r : List Str} {n : Nat} (hz : Ln z r n) (hn : n ≤ 300) (hr : r ≠ []) : TL2 (lines ++ [z]) (rows ++ [r]) := by
  refine ⟨?_, fun l hl => ?_⟩
  · rw [List.map_append, List.filter_append, h.w]
    show _ ++ List.filter _ [Txt.words z] = _
    rw [hz.words, List.filter_cons, if_pos (by simpa using hr)]
    rfl
  · rcases List.mem_append.mp hl with q | q
    · exact h.ok l q
    · rw [List.mem_singleton] at q
      subst q
      exact ⟨hz.no, by have := hz.len; omega⟩
theorem TL2.blank {lines : List Str} {rows : List (List Str)} (h : TL2 lines rows) {z : Str} {n : Nat} (hz : Ln z [] n) (hn : n ≤ 300) : TL2 (lines ++ [z]) rows := by
  refine ⟨?_, fun l hl => ?_⟩
  · rw [List.map_append, List.filter_append, h.w]
    show _ ++ List.filter _ [Txt.words z] = _
    rw [hz.words]
    simp
  · rcases List.mem_append.mp hl with q | q
    · exact h.ok l q
    · rw [List.mem_singleton] at q
      subst q
      exact ⟨hz.no, by have := hz.len; omega⟩
theorem TL2.ahead {lines : List Str} {rows : List (List Str)} (h : TL2 lines rows) : TL2 (eS :: lines) rows := by
  have e : Txt.words eS = [] := by decide +kernel
  refine ⟨?_, fun l hl => ?_⟩
  · rw [List.map_cons, e, List.filter_cons, if_neg (by simp)]
    exact h.w
  · rcases List.mem_cons.mp hl with q | q
    · subst q
      have e2 : cs eS = [] := by decide +kernel
      exact ⟨fun c hc => (by rw [e2] at hc; exact nomatch hc), by rw [← cs_len, e2]; exact Nat.zero_le _⟩
    · exact h.ok l q
theorem TL2.split {lines : List Str} {rows : List (List Str)} (h : TL2 lines rows) : ∃ ls, Txt.split (Txt.join nl lines) nl = ls ∧ TL2 ls rows ∧ ls.length ≤ lines.length + 1 := by
  by_cases c : lines = []
  · subst c
    have e : Txt.split (Txt.join nl []) nl = [eS] := by decide +kernel
    exact ⟨[eS], e, h.ahead, by simp⟩
  · have ey : TL.tl nl = 10 :: [] := by decide +kernel
    have hk : nl.cps.all (· < 256) = true := by decide +kernel
    exact ⟨lines, TL.split_join ey hk c fun p hp q => (h.ok p hp).1 10 q rfl, h, by omega⟩
end K05
namespace K05
open PySem L2 DL
def rowD (r : List Str) : PD := .list (r.map PyData.str)
theorem text_turn (rowsD : PD) (s k m0 : Int) (lines : List Str) (rows : List (List Str)) (r : List Str) (hr : r ≠ []) (hw : ∀ w ∈ r, Wc w) (hl : r.length ≤ 5) (h : TL2 lines rows) (hn : lines.length ≤ 300) (hm : 0 ≤ m0)
    (em : d_law_mix [.int s, .int k, .int 1313131313131313131] = .rt (.d (.int m0))) (er : ixD rowsD (.int k) = .ok (rowD r)) (y4 y5 y6 : Option Sl) : ∃ lines' z4 z5 z6, TL2 lines' (rows ++ [r]) ∧ lines'.length ≤ lines.length + 2 ∧
    (sSeq (sSet 4 (eCall 3 d_law_mix (aCons (eVar 1) (aCons (eVar 3) (aCons (eC (.int 1313131313131313131)) aNil))))) (sSeq (sSet 5 (eOp mulD (eC (.str (PySem.Str.ofString " "))) (eOp modD (rVar 4) (eC (.int 3))))) (sSeq (preK [6] (sFor (iItems (eOp ixD (rVar 0) (rVar 3))) (aName 6) (killS [6] (sSeq (sSet 5 (eOp addD (eOp addD (rVar 5) (rVar 6)) (eOp mulD (eC (.str (PySem.Str.ofString " "))) (eOp addD (eC (.int 1)) (eOp modD (eOp divD (rVar 4) (eC (.int 3))) (eC (.int 2))))))) (sSet 4 (eOp divD (rVar 4) (eC (.int 2)))))))) (sSeq (sAppend 2 (eVar 5)) (sIf (bOf (eOp eqD (eOp modD (rVar 4) (eC (.int 5))) (eC (.int 1)))) (sAppend 2 (eOp mulD (eC (.str (PySem.Str.ofString " "))) (eOp modD (eOp divD (rVar 4) (eC (.int 5))) (eC (.int 2))))) sNext)))))
      [some (.d rowsD), some (.d (.int s)), some (.o (.list (lines.map PyData.str))), some (.d (.int k)), y4, y5, y6] = .nx [some (.d rowsD), some (.d (.int s)), some (.o (.list (lines'.map PyData.str))), some (.d (.int k)), z4, z5, z6] := by
  rw [seq_nx (set_ok (x := .int m0) (call3 rfl rfl rfl em))]
  simp only [List.set]
  have m3 := x_mod m0 3 (by decide)
  rw [seq_nx (set_ok (x := .str (mulS (sg 32) (m0 % 3))) ((op_ok (a := .str (Str.ofString " ")) (b := .int (m0 % 3)) rfl ((op_ok (a := .int m0) (b := .int 3) rfl rfl).trans m3)).trans (x_mul_sp _ (by omega) (by omega))))]
  simp only [List.set]
  obtain ⟨m, z, z6, hm', hz, ef⟩ := line_loop (some (.d rowsD)) (some (.d (.int s))) (some (.o (.list (lines.map PyData.str)))) (some (.d (.int k))) r m0 _ [] 3 none hm hw (Ln.spaces (m0 % 3) 3 (by omega)) (by omega)
  rw [List.nil_append] at hz
  rw [seq_nx (ρ1 := [some (.d rowsD), some (.d (.int s)), some (.o (.list (lines.map PyData.str))), some (.d (.int k)), some (.d (.int m)), some (.d (.str z)), z6]) (by
    rw [x_preK, x_sFor, x_iItems]
    simp only [List.foldl_cons, List.foldl_nil, List.set_cons_succ, List.set_cons_zero]
    rw [op_ok (a := rowsD) (b := .int k) rfl rfl, er]
    exact ef)]
  have t1 := h.row hz (by omega) hr
  rw [seq_nx (append_ok (ds := lines.map PyData.str) (x := .str z) rfl rfl (by rw [List.length_map]; exact szl (by omega)))]
  simp only [List.set]
  rw [show lines.map PyData.str ++ [PyData.str z] = (lines ++ [z]).map PyData.str by rw [List.map_append]; rfl]
  have m5 := x_mod m 5 (by decide)
  have d5 := x_div m 5 (by decide) (by decide)
  have m2 := x_mod (m / 5) 2 (by decide)
  by_cases c : m % 5 = 1
  · refine ⟨lines ++ [z] ++ [mulS (sg 32) (m / 5 % 2)], some (.d (.int m)), some (.d (.str z)), z6, t1.blank (Ln.spaces (m / 5 % 2) 3 (by omega)) (by omega), by simp, ?_⟩
    rw [if_t (bof ((op_ok (a := .int (m % 5)) (b := .int 1) ((op_ok (a := .int m) (b := .int 5) rfl rfl).trans m5) rfl).trans (by rw [x_eq, x_eqB_i, c]; rfl)))]
    rw [append_ok (ds := (lines ++ [z]).map PyData.str) (x := .str (mulS (sg 32) (m / 5 % 2))) rfl ((op_ok (a := .str (Str.ofString " ")) (b := .int (m / 5 % 2)) rfl ((op_ok (a := .int (m / 5)) (b := .int 2) ((op_ok (a := .int m) (b := .int 5) rfl rfl).trans d5) rfl).trans m2)).trans (x_mul_sp _ (by omega) (by omega))) (by rw [List.length_map, List.length_append, List.length_singleton]; exact szl (by omega))]
    simp only [List.set]
    rw [show (lines ++ [z]).map PyData.str ++ [PyData.str (mulS (sg 32) (m / 5 % 2))] = (lines ++ [z] ++ [mulS (sg 32) (m / 5 % 2)]).map PyData.str by rw [List.map_append (l₁ := lines ++ [z])]; rfl]
  · refine ⟨lines ++ [z], some (.d (.int m)), some (.d (.str z)), z6, t1, by simp, ?_⟩
    rw [if_f (bof ((op_ok (a := .int (m % 5)) (b := .int 1) ((op_ok (a := .int m) (b := .int 5) rfl rfl).trans m5) rfl).trans (by rw [x_eq, x_eqB_i, decide_eq_false c]; rfl)))]
    rfl
theorem mix_nn (a b c : Int) : 0 ≤ (a + b * b + 1) * c % 2305843009213693951 := Int.emod_nonneg _ (by decide)
theorem row_ix (rows : List (List Str)) (i : Nat) (hi : i < rows.length) : ixD (.list (rows.map rowD)) (.int (0 + (i : Int))) = .ok (rowD (rows[i]'hi)) :=
  x_ix_l (rows.map rowD) (0 + (i : Int)) (rowD (rows[i]'hi)) (by omega) (by
    rw [show (0 + (i : Int)).toNat = i by omega, List.getElem?_map, List.getElem?_eq_getElem hi]
    rfl)
theorem k_nn (i : Nat) : (0 : Int) ≤ 0 + (i : Int) := by omega
theorem k_lt (i : Nat) (h : i < 1000) : (0 + (i : Int)) < 1000 := by omega
theorem law_text (rows : List (List Str)) (s : Int) (h0 : 0 ≤ s) (hr : ∀ r ∈ rows, r ≠ [] ∧ (∀ w ∈ r, Wc w) ∧ r.length ≤ 5) (hl : rows.length ≤ 100) : ∃ lines : List Str, d_law_text [.list (rows.map rowD), .int s] = .rt (.d (.str (Txt.join nl lines))) ∧ TL2 lines rows ∧ lines.length ≤ 300 := by
  show ∃ lines : List Str, (S_law_text [some (.d (.list (rows.map rowD))), some (.d (.int s)), none, none, none, none, none]).fr = _ ∧ _
  unfold S_law_text
  rw [seq_nx (ρ1 := [some (.d (.list (rows.map rowD))), some (.d (.int s)), some (.o (.list (([] : List Str).map PyData.str))), none, none, none, none]) (by simp)]
  rw [x_sSeq, x_preK, x_sFor]
  simp only [List.foldl_cons, List.foldl_nil, List.set_cons_succ, List.set_cons_zero]
  have e1 : (iRng1D (aCons (eCB lenD (aCons (rVar 0) aNil)) aNil)) [some (.d (.list (rows.map rowD))), some (.d (.int s)), some (.o (.list (([] : List Str).map PyData.str))), none, none, none, none] = .ok (rngD 0 rows.length) := by
    show (R.ok [PyData.int ((rows.map rowD).length : Nat)]).bind rng1 = _
    rw [x_bind_ok, List.length_map]
    exact rng_ok _ (by omega)
  rw [e1, x_of_ok]
  refine forD_by (P := fun r => ∃ lines : List Str, (r.seq (sSeq (sIf (bOf (eOp eqD (eOp modD (eOp divD (rVar 1) (eC (.int 3))) (eC (.int 4))) (eC (.int 1)))) (sInsertD 2 (eC (.int 0)) (eC (.str (PySem.Str.ofString "")))) sNext) (sRet (eM1 joinD (eC (.str (PySem.Str.ofString "\n"))) (rVar 2))))).fr = .rt (.d (.str (Txt.join nl lines))) ∧ TL2 lines rows ∧ lines.length ≤ 300)
    (fun i ρ => ∃ (lines : List Str) (y3 y4 y5 y6 : Option Sl), TL2 lines (rows.take i) ∧ lines.length ≤ 2 * i ∧ ρ = [some (.d (.list (rows.map rowD))), some (.d (.int s)), some (.o (.list (lines.map PyData.str))), y3, y4, y5, y6]) ⟨[], none, none, none, none, ⟨rfl, fun l hl => nomatch hl⟩, Nat.zero_le _, rfl⟩ ?_ ?_
  · rintro i x ρ hx ⟨lines, y3, y4, y5, y6, t, hn, rfl⟩
    obtain ⟨hi, rfl⟩ := rng_get hx
    have er := row_ix rows i hi
    have k0 : (0 : Int) ≤ 0 + (i : Int) := k_nn i
    have k1 : (0 + (i : Int)) < 1000 := k_lt i (Nat.lt_of_lt_of_le hi (Nat.le_trans hl (by decide)))
    generalize (0 + (i : Int)) = k at er k0 k1 ⊢
    obtain ⟨r1, r2, r3⟩ := hr (rows[i]'hi) (List.getElem_mem hi)
    have em := law_mix s k 1313131313131313131 k0 k1 (by decide) (by decide)
    have hm := mix_nn s k 1313131313131313131
    generalize (s + k * k + 1) * 1313131313131313131 % 2305843009213693951 = m0 at em hm
    obtain ⟨lines', z4, z5, z6, t', hn', e⟩ := text_turn (.list (rows.map rowD)) s k m0 lines (rows.take i) (rows[i]'hi) r1 r2 r3 t (by omega) hm em er y4 y5 y6
    rw [List.take_append_getElem hi] at t'
    refine ⟨[some (.d (.list (rows.map rowD))), some (.d (.int s)), some (.o (.list (lines.map PyData.str))), some (.d (.int k)), y4, y5, y6], rfl, ?_⟩
    rw [x_killS, e]
    exact ⟨lines', _, _, _, _, t', by omega, rfl⟩
  · rintro ρ ⟨lines, y3, y4, y5, y6, t, hn, rfl⟩
    have el : (rngD 0 rows.length).length = rows.length := by rw [rngD, List.length_map, List.length_range]
    rw [el] at t hn
    rw [List.take_length] at t
    have d3 := x_div s 3 (by decide) (by decide)
    have m4 := x_mod (s / 3) 4 (by decide)
    obtain ⟨lines', t', hn', e⟩ : ∃ lines', TL2 lines' rows ∧ lines'.length ≤ 300 ∧ sIf (bOf (eOp eqD (eOp modD (eOp divD (rVar 1) (eC (.int 3))) (eC (.int 4))) (eC (.int 1)))) (sInsertD 2 (eC (.int 0)) (eC (.str (PySem.Str.ofString "")))) sNext [some (.d (.list (rows.map rowD))), some (.d (.int s)), some (.o (.list (lines.map PyData.str))), y3, y4, y5, y6] = .nx [some (.d (.list (rows.map rowD))), some (.d (.int s)), some (.o (.list (lines'.map PyData.str))), y3, y4, y5, y6] := by
      have q := (op_ok (ρ := [some (.d (.list (rows.map rowD))), some (.d (.int s)), some (.o (.list (lines.map PyData.str))), y3, y4, y5, y6]) (f := eqD) (a := .int (s / 3 % 4)) (b := .int 1) ((op_ok (a := .int (s / 3)) (b := .int 4) ((op_ok (ga := rVar 1) (gb := eC (.int 3)) (a := .int s) (b := .int 3) rfl rfl).trans d3) (x_eC _ _)).trans m4) (x_eC _ _))
      by_cases c : s / 3 % 4 = 1
      · refine ⟨eS :: lines, t.ahead, by rw [List.length_cons]; omega, ?_⟩
        rw [if_t (bof (q.trans (by rw [x_eq, x_eqB_i, c]; rfl)))]
        rw [x_sInsertD]
        unfold ownL
        show insS _ 2 (lines.map PyData.str) (PyData.str eS) (.int 0) = _
        unfold insS
        have hlen : (lines.map PyData.str).length < sizeLine ∧ (0 : Int) ≤ 0 ∧ (0 : Int) < 2 ^ 63 := ⟨by rw [List.length_map]; exact szl (by omega), by decide, by decide⟩
        simp only [if_pos hlen]
        rfl
      · refine ⟨lines, t, by omega, ?_⟩
        rw [if_f (bof (q.trans (by rw [x_eq, x_eqB_i, decide_eq_false c]; rfl)))]
        rfl
    refine ⟨lines', ?_, t', by omega⟩
    rw [x_seq_nx, seq_nx e]
    rw [ret_ok (x := .str (Txt.join nl lines'))]
    · rfl
    · have sl := sum_le lines' 300 fun z hz => (t'.ok z hz).2
      have nlen : nl.length = 1 := by decide +kernel
      show strOf (.str nl) ((R.ok (PyData.list (lines'.map PyData.str))).bind fun b => joinD (.str nl) [b]) = _
      rw [x_strOf, x_bind_ok]
      exact x_join nl lines' (by rw [nlen]; omega)
end K05
namespace K05
open PySem L2 DL PySem.NumText
theorem cutS_from1 (z : Str) : cs (cutS z (some 1) none) = (cs z).drop 1 := by
  unfold cutS cs
  show ((z.cps.toList.drop (HT.sIx z.length 0 (some 1))).take (HT.sIx z.length z.length none - HT.sIx z.length 0 (some 1))).toArray.toList = _
  have e1 : HT.sIx z.length 0 (some 1) = min 1 z.length := HT.sIx_nat z.length 0 1
  have e2 : HT.sIx z.length z.length none = z.length := rfl
  rw [e1, e2]
  have hl : z.cps.toList.length = z.length := Array.length_toList
  by_cases h : z.length = 0
  · have : z.cps.toList = [] := List.eq_nil_of_length_eq_zero (by omega)
    simp [this]
  · have e3 : min 1 z.length = 1 := by omega
    rw [e3, List.take_of_length_le (by rw [List.length_drop]; omega)]
theorem cut1_len (z : Str) : (cutS z (some 1) none).length = z.length - 1 := by
  rw [← cs_len, cutS_from1, List.length_drop, cs_len]
theorem starts_minus (z : Str) : Txt.startswith z (Str.ofString "-") = decide ((cs z).head? = some 45) := by
  have e : Str.ofString "-" = sg 45 := by decide +kernel
  rw [e]
  unfold Txt.startswith
  have h := PySem.StrLaws.subAt_one z 45 0
  have hl := cs_len z
  unfold cs at hl ⊢
  show (decide (0 + 1 ≤ z.length) && Builtin.Str.subAt z ⟨#[45]⟩ 0) = _
  rw [Bool.eq_iff_iff, Bool.and_eq_true, decide_eq_true_eq, decide_eq_true_eq, List.head?_eq_getElem?]
  exact h
def figs (l : List Nat) : List Nat := match l with
  | 45 :: r => r
  | l => l
theorem digits_iff (l : List Nat) : allIn l figL = true ↔ AllDigits l := by
  unfold allIn AllDigits
  rw [List.all_eq_true]
  constructor
  · intro h c hc
    have := of_decide_eq_true (h c hc)
    simp [figL] at this
    omega
  · intro h c hc
    have := h c hc
    refine decide_eq_true ?_
    simp [figL]
    omega
def num (l : List Nat) : Option Int :=
  if (figs l).length = 0 ∨ 30 < (figs l).length ∨ allIn (figs l) figL = false then none
  else if (figs l).head? = some 48 ∧ l ≠ [48] then none
  else if (figs l).length = l.length then some (digitsVal l : Nat) else some (-((digitsVal (figs l) : Nat) : Int))
def numD (l : List Nat) : PD := match num l with
  | some n => .int n
  | none => .none
theorem zero_cs : cs (Str.ofString "0") = [48] := by decide +kernel
theorem str_zero (z : Str) : (z = Str.ofString "0") ↔ cs z = [48] := ⟨fun h => by rw [h]; exact zero_cs, fun h => cs_ext (by rw [h, zero_cs])⟩
theorem figs_cut {z : Str} (h : (cs z).head? = some 45) : figs (cs z) = cs (cutS z (some 1) none) := by
  rw [cutS_from1]
  cases e : cs z with
  | nil => rw [e] at h; cases h
  | cons c r =>
    rw [e] at h
    cases h
    rfl
theorem figs_same {l : List Nat} (h : l.head? ≠ some 45) : figs l = l := by
  unfold figs
  split
  · exact absurd rfl h
  · rfl
theorem ix0 (z : Str) (c : Nat) (r : List Nat) (h : cs z = c :: r) (hz : z.length ≤ sizeLine) : ixD (.str z) (.int 0) = .ok (.str (sg c)) := x_ix_s z 0 c hz (by decide) (by rw [h]; rfl)
theorem sg_inj (c d : Nat) : (sg c = sg d) ↔ c = d := ⟨fun h => by injection h with h; simpa using h, fun h => by rw [h]⟩
theorem num_tail (z w : Str) (hz : z.length ≤ 100) (hw : w.length ≤ 100) (hf : cs w = figs (cs z)) (hi : (figs (cs z)).length = (cs z).length → cs w = cs z) :
    (sSeq (sIf (bOr (bNot (bOf (eChain leD leD (eC (.int 1)) (eCB lenD (aCons (rVar 1) aNil)) (eC (.int 30))))) (bNot (bOf (eCall 2 d_signs_among (aCons (eVar 1) (aCons (eC (.str (PySem.Str.ofString "0123456789"))) aNil)))))) (sRet (eC .none)) sNext)
      (sSeq (sIf (bAnd (bOf (eOp eqD (eOp ixD (rVar 1) (eC (.int 0))) (eC (.str (PySem.Str.ofString "0"))))) (bOf (eOp neD (rVar 0) (eC (.str (PySem.Str.ofString "0")))))) (sRet (eC .none)) sNext) (sRet (eCB intD (aCons (rVar 0) aNil)))) [some (.d (.str z)), some (.d (.str w))]).fr = .rt (.d (numD (cs z))) := by
  have h1 : w.length ≤ sizeLine := sz (by omega)
  have hl := cs_len w
  have hl2 := cs_len z
  unfold numD num
  rw [hf] at hl
  by_cases a : 1 ≤ (w.length : Int)
  · by_cases b : (w.length : Int) ≤ 30
    · by_cases d : allIn (figs (cs z)) figL = true
      · have n1 : ¬ ((figs (cs z)).length = 0 ∨ 30 < (figs (cs z)).length ∨ allIn (figs (cs z)) figL = false) := by
          rintro (q | q | q)
          · omega
          · omega
          · rw [d] at q; cases q
        rw [if_neg n1]
        simp [rVar, eVar, h1, a, b, signs_among, hf, fig_cs, d]
        cases e : cs w with
        | nil => rw [← hf, e] at hl; simp at hl; omega
        | cons c r =>
          have e0 := ix0 w c r e h1
          have ez : Str.ofString "0" = sg 48 := by decide +kernel
          simp [e0, ez, sg_inj]
          rw [← hf, e]
          simp only [List.head?_cons, Option.some.injEq]
          have dg : AllDigits (figs (cs z)) := (digits_iff _).mp d
          have fin : intD [.str z] = .ok (.int (if (figs (cs z)).length = (cs z).length then ((digitsVal (cs z) : Nat) : Int) else -((digitsVal (figs (cs z)) : Nat) : Int))) := by
            by_cases g : (figs (cs z)).length = (cs z).length
            · rw [if_pos g]
              have e3 := hi g
              refine x_int_s z _ (intText_digits (x := z) (by rw [show z.cps.toList = cs z from rfl, ← e3, hf]; exact dg) ?_ (by omega)) (by omega)
              rw [show z.cps.toList = cs z from rfl, ← e3, e]
              exact List.cons_ne_nil _ _
            · rw [if_neg g]
              have e4 : cs z = 45 :: figs (cs z) := by
                cases ez : cs z with
                | nil => rw [ez] at g; exact absurd rfl g
                | cons x y =>
                  by_cases hx : x = 45
                  · subst hx; rfl
                  · rw [ez] at g
                    exact absurd (congrArg List.length (figs_same (l := x :: y) (by simpa using hx))) g
              refine x_int_s z _ (intText_neg (x := z) e4 dg ?_ (by omega)) (by omega)
              rw [← hf, e]
              exact List.cons_ne_nil _ _
          have zz : (z = sg 48) ↔ cs z = [48] := by rw [← ez]; exact str_zero z
          rw [← hf, e] at fin
          by_cases k : c = 48
          · by_cases k2 : cs z = [48]
            · have k3 := zz.mpr k2
              simp [k, k2, k3]
              rw [k3] at fin
              simp [rVar, fin]
              rw [k]
              split <;> simp
            · have k3 : ¬ z = sg 48 := fun q => k2 (zz.mp q)
              simp [k, k2, k3]
          · simp [k, rVar, fin]
            split <;> simp
      · have n1 : ((figs (cs z)).length = 0 ∨ 30 < (figs (cs z)).length ∨ allIn (figs (cs z)) figL = false) := .inr (.inr (by simpa using d))
        rw [if_pos n1]
        have d' : allIn (figs (cs z)) figL = false := by simpa using d
        simp [rVar, eVar, h1, a, b, signs_among, hf, fig_cs, d']
    · have n1 : ((figs (cs z)).length = 0 ∨ 30 < (figs (cs z)).length ∨ allIn (figs (cs z)) figL = false) := .inr (.inl (by omega))
      rw [if_pos n1]
      simp [rVar, eVar, h1, a, b]
  · have n1 : ((figs (cs z)).length = 0 ∨ 30 < (figs (cs z)).length ∨ allIn (figs (cs z)) figL = false) := .inl (by omega)
    rw [if_pos n1]
    simp [rVar, eVar, h1, a]
theorem number_in (z : Str) (hz : z.length ≤ 100) : d_number_in [.str z] = .rt (.d (numD (cs z))) := by
  have h1 := sz (show z.length ≤ 16777216 by omega)
  show (S_number_in [some (.d (.str z)), none]).fr = _
  unfold S_number_in
  rw [seq_nx (ρ1 := [some (.d (.str z)), some (.d (.str z))]) (by simp [eVar])]
  by_cases h : (cs z).head? = some 45
  · have e : Txt.startswith z (Str.ofString "-") = true := by rw [starts_minus]; exact decide_eq_true h
    rw [seq_nx (ρ1 := [some (.d (.str z)), some (.d (.str (cutS z (some 1) none)))]) (by simp [rVar, h1, e])]
    refine num_tail z (cutS z (some 1) none) hz (by rw [cut1_len]; omega) (figs_cut h).symm fun q => ?_
    rw [figs_cut h, cs_len, cut1_len, cs_len] at q
    have : (cs z).length ≠ 0 := by
      intro q
      rw [List.length_eq_zero_iff] at q
      rw [q] at h
      cases h
    rw [cs_len] at this
    omega
  · have e : Txt.startswith z (Str.ofString "-") = false := by rw [starts_minus]; exact decide_eq_false h
    rw [seq_nx (ρ1 := [some (.d (.str z)), some (.d (.str z))]) (by simp [rVar, e])]
    exact num_tail z z hz hz (figs_same h).symm fun _ => rfl
theorem str_nat (m : Nat) : cs (Str.ofString (toString ((m : Nat) : Int))) = (Nat.toDigits 10 m).map Char.toNat := PySem.W.KIN.signs_num m
theorem str_neg (m : Nat) (h : 0 < m) : cs (Str.ofString (toString (-((m : Nat) : Int)))) = 45 :: (Nat.toDigits 10 m).map Char.toNat := by
  obtain ⟨k, rfl⟩ : ∃ k, m = k + 1 := ⟨m - 1, by omega⟩
  unfold cs
  rw [PyProof.Rows.signs_ofString]
  show (("-" ++ Nat.repr (k + 1)).toList).map Char.toNat = _
  rw [String.toList_append, Nat.toList_repr]
  rfl
theorem char_back (l : List Nat) (h : AllDigits l) : (l.map Char.ofNat).map Char.toNat = l := by
  rw [List.map_map]
  refine (List.map_congr_left fun c hc => ?_).trans (List.map_id l)
  have all : (List.range 58).all (fun c => (Char.ofNat c).toNat == c) = true := by decide +kernel
  have := h c hc
  exact eq_of_beq (List.all_eq_true.mp all c (List.mem_range.mpr (by omega)))
theorem digs_back (l : List Nat) (h : AllDigits l) (h0 : l ≠ []) : ((Nat.toDigits 10 (digitsVal l)).map Char.toNat = l) ↔ (l.head? ≠ some 48 ∨ l = [48]) := by
  rw [toDigits_all l h]
  cases l with
  | nil => exact absurd rfl h0
  | cons c r =>
    by_cases e : c = 48
    · subst e
      constructor
      · intro q
        right
        cases e2 : List.dropWhile (· == 48) (48 :: r) with
        | nil =>
          rw [e2] at q
          exact q.symm
        | cons d t =>
          rw [e2] at q
          have hs : AllDigits (d :: t) := fun x hx => h x ((List.dropWhile_sublist _).subset (e2 ▸ hx))
          simp only at q
          rw [char_back _ hs] at q
          have hd : (d == 48) = false := by
            have := List.head?_dropWhile_not (fun x : Nat => x == 48) (48 :: r)
            rw [e2] at this
            simpa using this
          injection q with q1 _
          rw [q1] at hd
          exact absurd hd (by decide)
      · rintro (q | q)
        · exact absurd rfl q
        · injection q with _ q
          subst q
          rfl
    · have e2 : List.dropWhile (· == 48) (c :: r) = c :: r := by
        rw [List.dropWhile_cons, if_neg (by rw [beq_iff_eq]; exact e)]
      rw [e2]
      simp only
      rw [char_back _ h]
      exact ⟨fun _ => .inl (by simpa using e), fun _ => rfl⟩
theorem log_ok (n : Nat) (h : n < 10 ^ 30) : n.log2 < 1920 := by
  by_cases e : n = 0
  · subst e; decide
  · exact (Nat.log2_lt e).mpr (Nat.lt_of_lt_of_le h (by decide))
def tS (n : Int) : Str := Str.ofString (toString n)
theorem dig_all (m : Nat) : AllDigits ((Nat.toDigits 10 m).map Char.toNat) := by
  intro c hc
  obtain ⟨d, hd, rfl⟩ := List.mem_map.mp hc
  have h := Nat.isDigit_of_mem_toDigits (by decide) (by decide) hd
  unfold Char.isDigit at h
  simp only [Bool.and_eq_true, decide_eq_true_eq] at h
  have h1 : (48 : UInt32).toNat ≤ d.val.toNat := h.1
  have h2 : d.val.toNat ≤ (57 : UInt32).toNat := h.2
  have e : d.toNat = d.val.toNat := rfl
  rw [e]
  exact ⟨h1, h2⟩
theorem dig_ne (m : Nat) : (Nat.toDigits 10 m).map Char.toNat ≠ [] := by
  intro h
  have := congrArg List.length h
  rw [List.length_map, List.length_nil] at this
  have := PySem.toDigits_len_ge 10 m
  omega
theorem dig_head (m : Nat) : ((Nat.toDigits 10 m).map Char.toNat).head? ≠ some 48 ∨ (Nat.toDigits 10 m).map Char.toNat = [48] :=
  (digs_back _ (dig_all m) (dig_ne m)).mp (by rw [PySem.W.KIN.val_back])
theorem dig_len (m : Nat) (h : m < 10 ^ 30) : ((Nat.toDigits 10 m).map Char.toNat).length ≤ 30 := by
  rw [List.length_map]
  exact PySem.toDigits_len_pow (by decide) (by decide) h
theorem tS_cs (n : Int) : (∃ m : Nat, n = (m : Int) ∧ cs (tS n) = (Nat.toDigits 10 m).map Char.toNat) ∨ ∃ m : Nat, 0 < m ∧ n = -(m : Int) ∧ cs (tS n) = 45 :: (Nat.toDigits 10 m).map Char.toNat := by
  by_cases h : 0 ≤ n
  · exact .inl ⟨n.toNat, (Int.toNat_of_nonneg h).symm, by rw [← str_nat, Int.toNat_of_nonneg h]; rfl⟩
  · refine .inr ⟨(-n).toNat, by omega, by omega, ?_⟩
    rw [← str_neg _ (by omega), show -(((-n).toNat : Nat) : Int) = n by omega]
    rfl
theorem figs_dig {l : List Nat} (h : AllDigits l) : figs l = l := figs_same (by
  cases l with
  | nil => intro q; cases q
  | cons c r =>
    intro q
    cases q
    have := h 45 List.mem_cons_self
    omega)
theorem num_tS (n : Int) (h : n.natAbs < 10 ^ 30) : num (cs (tS n)) = some n := by
  rcases tS_cs n with ⟨m, rfl, e⟩ | ⟨m, h0, rfl, e⟩
  · have hm : m < 10 ^ 30 := by omega
    rw [e]
    have ad := dig_all m
    have ef := figs_dig ad
    have len := dig_len m hm
    have ne := dig_ne m
    have hd := dig_head m
    have vb := PySem.W.KIN.val_back m
    generalize (Nat.toDigits 10 m).map Char.toNat = l at ad ef len ne hd vb
    unfold num
    rw [ef]
    rw [if_neg, if_neg, if_pos rfl, vb]
    · rintro ⟨a, b⟩
      rcases hd with c | c
      · exact c a
      · exact b c
    · rintro (a | a | a)
      · exact ne (List.eq_nil_of_length_eq_zero a)
      · omega
      · rw [(digits_iff l).mpr ad] at a; cases a
  · have hm : m < 10 ^ 30 := by omega
    rw [e]
    have ad := dig_all m
    have len := dig_len m hm
    have ne := dig_ne m
    have hd := dig_head m
    have vb := PySem.W.KIN.val_back m
    generalize (Nat.toDigits 10 m).map Char.toNat = l at ad len ne hd vb
    have ef : figs (45 :: l) = l := rfl
    unfold num
    rw [ef]
    rw [if_neg, if_neg, if_neg (by rw [List.length_cons]; omega), vb]
    · rintro ⟨a, b⟩
      rcases hd with c | c
      · exact c a
      · rw [c] at vb
        have : digitsVal [48] = 0 := rfl
        omega
    · rintro (a | a | a)
      · exact ne (List.eq_nil_of_length_eq_zero a)
      · omega
      · rw [(digits_iff l).mpr ad] at a; cases a
theorem tS_ch (n : Int) : ∀ c ∈ cs (tS n), 33 ≤ c ∧ c ≤ 122 := by
  intro c hc
  rcases tS_cs n with ⟨m, rfl, e⟩ | ⟨m, h0, rfl, e⟩
  · rw [e] at hc
    have := dig_all m c hc
    omega
  · rw [e] at hc
    rcases List.mem_cons.mp hc with rfl | hc
    · omega
    · have := dig_all m c hc
      omega
theorem tS_len (n : Int) (h : n.natAbs < 10 ^ 30) : 1 ≤ (tS n).length ∧ (tS n).length ≤ 31 := by
  rw [← cs_len]
  rcases tS_cs n with ⟨m, rfl, e⟩ | ⟨m, h0, rfl, e⟩
  · have := dig_len m (by omega)
    have ne := dig_ne m
    rw [e]
    have : ((Nat.toDigits 10 m).map Char.toNat).length ≠ 0 := fun q => ne (List.eq_nil_of_length_eq_zero q)
    omega
  · have := dig_len m (by omega)
    rw [e, List.length_cons]
    omega
theorem str_tS (n : Int) (h : n.natAbs < 10 ^ 30) : strD [.int n] = .ok (.str (tS n)) := x_str n (log_ok _ h)
end K05
namespace K05
open PySem L2 DL
abbrev Pt := Str × List (Str × Int)
abbrev Jn := Str × Int × Int
abbrev Sp := Str × Int
def szI (e : Str × Int) : PD := .tuple [.str e.1, .int e.2]
def ptT (p : Pt) : Tv := .tup [.fr (.str p.1), .own (.list (p.2.map szI))]
def ptI (p : Pt) : PD := .tuple [.str p.1, .list (p.2.map szI)]
def psT (ps : List Pt) : Tv := .lst (ps.map ptT)
def jnI (j : Jn) : PD := .tuple [.str j.1, .int j.2.1, .int j.2.2]
def spI (s : Sp) : PD := .tuple [.str s.1, .int s.2]
def ec1 (x : Str) (b : Int) : Ec := ⟨x, [(Str.ofString "row", .int b)]⟩
def ec2 (x : Str) (a b : Int) : Ec := ⟨x, [(Str.ofString "row", .int b), (Str.ofString "claim", .int a)]⟩
theorem toD_pt (p : Pt) : (ptT p).toD = .ok (ptI p) := by
  unfold ptT
  rw [x_toD_t, x_toDs_c, x_toD_f, x_bind_ok, x_toDs_c, x_toD_l, x_bind_ok, x_toDs_n, x_bind_ok, x_bind_ok, x_bind_ok]
  rfl
theorem toDs_ps : ∀ ps : List Pt, Tv.toDs (ps.map ptT) = .ok (ps.map ptI)
  | [] => by rw [List.map_nil, x_toDs_n]; rfl
  | p :: ps => by rw [List.map_cons, x_toDs_c, toD_pt, x_bind_ok, toDs_ps ps, x_bind_ok]; rfl
theorem toD_ps (ps : List Pt) : (psT ps).toD = .ok (.list (ps.map ptI)) := by
  unfold psT
  rw [Tv.toD, toDs_ps, x_bind_ok]
theorem is_kind (ks : Ks) (w : Str) (hl : ks.length ≤ 1000) : d_is_kind [kD ks, .str w] = .rt (.d (.bool (decide (w ∈ ks.map (·.1))))) := by
  refine run_eq (n := 4) (s := S_is_kind) (ds := [kD ks, .str w]) ?_
  unfold S_is_kind
  simp -implicitDefEqProofs only [startD, List.length_cons, List.length_nil, List.map_cons, List.map_nil, List.cons_append, List.nil_append, Nat.reduceAdd, Nat.reduceSub, List.replicate, List.set_cons_zero, List.set_cons_succ, List.foldl_cons, List.foldl_nil, x_killD_n, x_killD_c, x_slOf_f, x_slOf_o, x_slOf_t, x_slOf_k]
  have e : eFz (oLc (iItems (eVar 0)) (aTup 2 (asCons (aName 2) (asCons (aName 3) asNil))) gYes (eVar 2) [2, 3]) [some (.d (kD ks)), some (.d (.str w)), none, none] = .ok (.list ((ks.map (·.1)).map PyData.str)) := by
    refine fz_l ?_
    rw [List.map_map]
    exact lc_eq (xs := ks) kI (fun p => PyData.str p.1) rfl (sz (by omega)) fun p hp => ⟨_, rfl, rfl⟩
  exact hs_ret (x := .bool (decide (w ∈ ks.map (·.1)))) (in_strs rfl e) rfl
structure RW (ws : List Str) : Prop where
  ne : ws ≠ []
  w : ∀ w ∈ ws, w.length ≤ 100 ∧ PyData.strOk w = true
theorem rw_ix {ws : List Str} {n : Int} {w : Str} (h0 : 0 ≤ n) (h : ws[n.toNat]? = some w) : ixD (rowD ws) (.int n) = .ok (.str w) := by
  unfold rowD
  exact x_ix_l _ _ _ h0 (by rw [List.getElem?_map, h]; rfl)
def takePart (ks : Ks) (at' : Int) (ws : List Str) (ps : List Pt) : List Pt ⊕ Ec := match ws with
  | [_, w] => if isW w = true then (if w ∈ ks.map (·.1) then (if ps.length = 8 then .inr (ec2 "TooBig" 0 at') else .inl (ps ++ [(w, [])])) else .inr (ec2 "NoKind" 0 at')) else .inr (ec1 "BadRow" at')
  | _ => .inr (ec1 "BadRow" at')
theorem xseq_nx {s s' : Rho → SX} {ρ ρ1 : Rho} (h : s ρ = .nx ρ1) : xSeq s s' ρ = s' ρ1 := by
  unfold xSeq
  rw [h]
  rfl
theorem xseq_exc {s s' : Rho → SX} {ρ : Rho} {c : Ec} {o : Option Rho} (h : s ρ = .exc c o) : xSeq s s' ρ = .exc c o := by
  unfold xSeq
  rw [h]
  rfl
theorem xif_f {g : Rho → R Bool} {s s' : Rho → SX} {ρ : Rho} (h : g ρ = .ok false) : xIf g s s' ρ = s' ρ := by
  unfold xIf
  rw [h]
  rfl
theorem xif_t {g : Rho → R Bool} {s s' : Rho → SX} {ρ : Rho} (h : g ρ = .ok true) : xIf g s s' ρ = s ρ := by
  unfold xIf
  rw [h]
  rfl
theorem xOrB {ρ : Rho} {a b : Rho → R Bool} (x y : Bool) (h1 : a ρ = .ok x) (h2 : x = false → b ρ = .ok y) : bOr a b ρ = .ok (x || y) := by
  rw [x_bOr, h1, x_bind_ok]
  cases x with
  | true => rfl
  | false => exact h2 rfl
theorem neiB {ga gb : Rho → R PD} {ρ : Rho} {a b : Int} (ha : ga ρ = .ok (.int a)) (hb : gb ρ = .ok (.int b)) : bOf (eOp neD ga gb) ρ = .ok (!decide (a = b)) := bof (by
  rw [op_ok ha hb]
  unfold neD
  rw [x_eqB_i, x_bind_ok])
theorem len_ws {i : Nat} {ws : List Str} {ρ : Rho} (h : ρ[i]? = some (some (.d (rowD ws)))) : eCB lenD (aCons (rVar i) aNil) ρ = .ok (.int (ws.length : Nat)) := by
  rw [cb1 (a := rowD ws) (by unfold rVar; rw [h])]
  unfold rowD
  rw [x_len_l, List.length_map]
theorem ix_ws {i : Nat} {n : Int} {ws : List Str} {w : Str} {ρ : Rho} (h : ρ[i]? = some (some (.d (rowD ws)))) (h0 : 0 ≤ n) (hk : ws[n.toNat]? = some w) : eOp ixD (rVar i) (eC (.int n)) ρ = .ok (.str w) := by
  rw [op_ok (a := rowD ws) (b := .int n) (by unfold rVar; rw [h]) rfl, rw_ix h0 hk]
theorem word_ws {i : Nat} {n : Int} {ws : List Str} {w : Str} {ρ : Rho} (h : ρ[i]? = some (some (.d (rowD ws)))) (h0 : 0 ≤ n) (hk : ws[n.toNat]? = some w) (hl : w.length ≤ 100) : bOf (eCall 1 d_is_word (aCons (eOp ixD (rVar i) (eC (.int n))) aNil)) ρ = .ok (isW w) := bof (call1 (ix_ws h h0 hk) (is_word w (by omega)))
theorem num_ws {i : Nat} {n : Int} {ws : List Str} {w : Str} {ρ : Rho} (h : ρ[i]? = some (some (.d (rowD ws)))) (h0 : 0 ≤ n) (hk : ws[n.toNat]? = some w) (hl : w.length ≤ 100) : eCall 1 d_number_in (aCons (eOp ixD (rVar i) (eC (.int n))) aNil) ρ = .ok (numD (cs w)) := call1 (ix_ws h h0 hk) (number_in w hl)
theorem ps_len {i : Nat} {ps : List Pt} {ρ : Rho} (h : ρ[i]? = some (some (.t (psT ps)))) : eImm (eCB lenD (aCons (hVar i) aNil)) ρ = .ok (.int (ps.length : Nat)) := by
  have e : hVar i ρ = .ok (.list (ps.map ptI)) := by
    unfold hVar
    rw [h]
    exact toD_ps ps
  rw [x_eImm, cb1 e, x_len_l, List.length_map, x_bind_ok]
  rfl
theorem take_part {ks : Ks} {ps : List Pt} {ws : List Str} (a : Int) (hk : ks.length ≤ 1000) (hp : ps.length ≤ 8) (hw : RW ws) : d_take_part [.fr (kD ks), psT ps, .fr (rowD ws), .fr (.int a)] = match takePart ks a ws ps with
    | .inl ps' => .rt (.d .none) [psT ps']
    | .inr e => .exc e (some [psT ps]) := by
  obtain ⟨T, hT⟩ : ∃ T, T = psT ps := ⟨_, rfl⟩
  obtain ⟨W, hW⟩ : ∃ W, W = rowD ws := ⟨_, rfl⟩
  have es : startX 4 [false, true, false, false] [.fr (kD ks), T, .fr W, .fr (.int a)] = [some (.d (kD ks)), some (.t T), some (.d W), some (.d (.int a))] := by rw [hT]; rfl
  have ed : d_take_part [.fr (kD ks), T, .fr W, .fr (.int a)] = endX [false, true, false, false] (S_take_part (startX 4 [false, true, false, false] [.fr (kD ks), T, .fr W, .fr (.int a)])) := rfl
  have r1 : ∀ s' : Rho → SX, xRaise "BadRow" ["row"] (aCons (eVar 3) aNil) [some (.d (kD ks)), some (.t T), some (.d W), some (.d (.int a))] = .exc (ec1 "BadRow" a) (some [some (.d (kD ks)), some (.t T), some (.d W), some (.d (.int a))]) := fun _ => rfl
  rw [← hT, ← hW, ed, es]
  unfold S_take_part
  have l2 : bOf (eOp neD (eCB lenD (aCons (rVar 2) aNil)) (eC (.int 2))) [some (.d (kD ks)), some (.t T), some (.d W), some (.d (.int a))] = .ok (!decide ((ws.length : Int) = 2)) := neiB (len_ws (by rw [← hW]; rfl)) rfl
  by_cases c : ws.length = 2
  case neg =>
    have tk : takePart ks a ws ps = .inr (ec1 "BadRow" a) := by
      unfold takePart
      split
      · rename_i x w; exact absurd rfl c
      · rfl
    have t1 := xOrB (b := bNot (bOf (eCall 1 d_is_word (aCons (eOp ixD (rVar 2) (eC (.int 1))) aNil)))) _ true l2 (fun q => by
      rw [decide_eq_false (by omega)] at q
      cases q)
    rw [Bool.or_true] at t1
    rw [tk, xseq_exc (xif_t t1 |>.trans (r1 (fun _ => .bad)))]
    rfl
  obtain ⟨x, w, rfl⟩ : ∃ x w, ws = [x, w] := by
    match ws, c with
    | [x, w], _ => exact ⟨x, w, rfl⟩
  have hww := hw.w w (by simp)
  have t1 := xOrB (b := bNot (bOf (eCall 1 d_is_word (aCons (eOp ixD (rVar 2) (eC (.int 1))) aNil)))) _ (!isW w) l2 (fun _ => by
    rw [x_bNot, word_ws (by rw [← hW]; rfl) (by decide) rfl hww.1, x_bind_ok])
  rw [show (!decide ((([x, w] : List Str).length : Int) = 2)) = false from rfl, Bool.false_or] at t1
  show endX _ _ = match (if isW w = true then (if w ∈ ks.map (·.1) then (if ps.length = 8 then .inr (ec2 "TooBig" 0 a) else .inl (ps ++ [(w, [])])) else .inr (ec2 "NoKind" 0 a)) else .inr (ec1 "BadRow" a) : List Pt ⊕ Ec) with
    | .inl ps' => .rt (.d .none) [psT ps']
    | .inr e => .exc e (some [T])
  by_cases c1 : isW w = true
  case neg =>
    rw [Bool.eq_false_iff.mpr c1] at t1
    rw [if_neg c1, xseq_exc (xif_t t1 |>.trans (r1 (fun _ => .bad)))]
    rfl
  rw [c1] at t1
  rw [if_pos c1, xseq_nx ((xif_f t1).trans (show (xLift sNext) _ = .nx [some (.d (kD ks)), some (.t T), some (.d W), some (.d (.int a))] from rfl))]
  have ek : bNot (bOf (eCall 2 d_is_kind (aCons (eVar 0) (aCons (eOp ixD (rVar 2) (eC (.int 1))) aNil)))) [some (.d (kD ks)), some (.t T), some (.d W), some (.d (.int a))] = .ok (!decide (w ∈ ks.map (·.1))) := by
    rw [x_bNot, bof (call2 (a := kD ks) (b := .str w) rfl (ix_ws (by rw [← hW]; rfl) (by decide) rfl) (is_kind ks w hk)), x_bind_ok]
  by_cases c2 : w ∈ ks.map (·.1)
  case neg =>
    rw [decide_eq_false c2] at ek
    rw [if_neg c2, xseq_exc ((xif_t ek).trans (show xRaise "NoKind" ["claim", "row"] (aCons (eC (.int 0)) (aCons (eVar 3) aNil)) _ = .exc (ec2 "NoKind" 0 a) (some [some (.d (kD ks)), some (.t T), some (.d W), some (.d (.int a))]) from rfl))]
    rfl
  rw [decide_eq_true c2] at ek
  rw [if_pos c2, xseq_nx ((xif_f ek).trans (show (xLift sNext) _ = .nx [some (.d (kD ks)), some (.t T), some (.d W), some (.d (.int a))] from rfl))]
  have el : bOf (eOp eqD (eImm (eCB lenD (aCons (hVar 1) aNil))) (eC (.int 8))) [some (.d (kD ks)), some (.t T), some (.d W), some (.d (.int a))] = .ok (decide ((ps.length : Int) = 8)) := xEqB (i := (ps.length : Nat)) (j := 8) _ (ps_len (by rw [← hT]; rfl)) rfl rfl
  by_cases c3 : ps.length = 8
  · rw [decide_eq_true (by omega)] at el
    rw [if_pos c3, xseq_exc ((xif_t el).trans (show xRaise "TooBig" ["claim", "row"] (aCons (eC (.int 0)) (aCons (eVar 3) aNil)) _ = .exc (ec2 "TooBig" 0 a) (some [some (.d (kD ks)), some (.t T), some (.d W), some (.d (.int a))]) from rfl))]
    rfl
  rw [decide_eq_false (by omega)] at el
  rw [if_neg c3, xseq_nx ((xif_f el).trans (show (xLift sNext) _ = .nx [some (.d (kD ks)), some (.t T), some (.d W), some (.d (.int a))] from rfl))]
  have ea : mTup (maCons (mFr (eOp ixD (rVar 2) (eC (.int 1)))) (maCons (mOwn (oLst aNil)) maNil)) [some (.d (kD ks)), some (.t T), some (.d W), some (.d (.int a))] = .ok (ptT (w, [])) := by
    have e4 : oLst aNil [some (.d (kD ks)), some (.t T), some (.d W), some (.d (.int a))] = .ok (.list []) := by rw [x_oLst, x_aNil, x_bind_ok]; exact if_pos s0
    have e1 : eOp ixD (rVar 2) (eC (.int 1)) [some (.d (kD ks)), some (.t T), some (.d W), some (.d (.int a))] = .ok (.str w) := ix_ws (ws := [x, w]) (by rw [← hW]; rfl) (by decide) rfl
    rw [x_mTup, x_maCons, x_mFr, e1, x_bind_ok, x_bind_ok, x_maCons, x_mOwn, e4, x_bind_ok, x_bind_ok, x_maNil, x_bind_ok, x_bind_ok, x_bind_ok]
    exact if_pos s2
  have es2 : sAppendM 1 [] (mTup (maCons (mFr (eOp ixD (rVar 2) (eC (.int 1)))) (maCons (mOwn (oLst aNil)) maNil))) [some (.d (kD ks)), some (.t T), some (.d W), some (.d (.int a))] = .nx [some (.d (kD ks)), some (.t (psT (ps ++ [(w, [])]))), some (.d W), some (.d (.int a))] := by
    unfold sAppendM lstAt
    rw [hT] at ea ⊢
    show SR.of (mTup _ _) (fun y => if (ps.map ptT).length < sizeLine then SR.nx _ else .bad) = _
    rw [ea, x_of_ok, if_pos (by rw [List.length_map]; exact szl (by omega))]
    unfold psT
    rw [List.map_append]
    rfl
  show endX _ (SX.lift (sAppendM 1 [] (mTup (maCons (mFr (eOp ixD (rVar 2) (eC (.int 1)))) (maCons (mOwn (oLst aNil)) maNil))) [some (.d (kD ks)), some (.t T), some (.d W), some (.d (.int a))])) = _
  rw [es2]
  rfl
end K05
namespace K05
open PySem L2 DL
section
variable {i j : Nat} {gp : Rho → R (List Nat)} {ρ : Rho} {x t : Tv} {ks : List Nat}
theorem at_p (h : gp ρ = .ok ks) (ht : treeOf ρ i = some x) (ha : x.at ks = some t) : atP i gp ρ = .ok t := by
  unfold atP
  rw [ht]
  dsimp only
  rw [h, x_bind_ok, ha]
end
theorem p_ix {i : Nat} {gp : Rho → R (List Nat)} {gi : Rho → R PD} {ρ : Rho} {ks : List Nat} {n : Int} {x t : Tv} {j : Nat} (h : gp ρ = .ok ks) (hi : gi ρ = .ok (.int n)) (ht : treeOf ρ i = some x) (ha : x.at ks = some t) (hs : t.isSeq = true) (hj : ixN t.kids.length n = some j) : pIx i gp gi ρ = .ok (ks ++ [j]) := by
  unfold pIx
  rw [h, x_bind_ok, hi, x_bind_ok]
  dsimp only
  rw [ht]
  dsimp only
  unfold stepN
  rw [ha]
  dsimp only
  rw [if_pos hs, hj]
theorem appP_ok {i : Nat} {gp : Rho → R (List Nat)} {g : Rho → R PD} {ρ : Rho} {x : Tv} {ks : List Nat} {ds : List PD} {d : PD} (h : ρ[i]? = some (some (.t x))) (hp : gp ρ = .ok ks) (ha : x.at ks = some (.own (.list ds))) (e : g ρ = .ok d) (hl : ds.length < sizeLine) : sAppendP i gp g ρ = .nx (ρ.set i (some (.t (x.setAt ks (.own (.list (ds ++ [d]))))))) := by
  unfold sAppendP onP
  rw [show treeT ρ i = some x by unfold treeT; rw [h]]
  dsimp only
  rw [hp, x_of_ok, ha]
  dsimp only
  unfold ownT
  dsimp only
  rw [e, x_of_ok, if_pos hl]
  rfl
theorem numD_of {l : List Nat} : numD l = match num l with
    | some m => .int m
    | none => .none := by
  unfold numD
  cases num l <;> rfl
def takeSize (a : Int) (ws : List Str) (ps : List Pt) : List Pt ⊕ Ec := match ws with
  | [_, w, n] => (match isW w, num (cs n), ps.getLast? with
    | true, some m, some p => if w ∈ p.2.map (·.1) then .inr (ec1 "Twice" a) else if p.2.length = 4 then .inr (ec2 "TooBig" 0 a) else .inl (ps.dropLast ++ [(p.1, p.2 ++ [(w, m)])])
    | _, _, _ => .inr (ec1 "BadRow" a))
  | _ => .inr (ec1 "BadRow" a)
theorem ps_path {ρ : Rho} {pre : List Pt} {p : Pt} (h : treeOf ρ 0 = some (psT (pre ++ [p]))) : pIx 0 (pIx 0 pVar (eUn negD (eC (.int 1)))) (eC (.int 1)) ρ = .ok [pre.length, 1] ∧ (psT (pre ++ [p])).at [pre.length, 1] = some (.own (.list (p.2.map szI))) := by
  have e1 : pIx 0 pVar (eUn negD (eC (.int 1))) ρ = .ok [pre.length] := by
    refine p_ix (ks := []) (n := -1) (t := psT (pre ++ [p])) rfl rfl h rfl rfl ?_
    show ixN ((pre ++ [p]).map ptT).length (-1) = _
    rw [List.length_map, List.length_append, List.length_singleton]
    unfold ixN
    simp
    omega
  refine ⟨p_ix (ks := [pre.length]) (n := 1) (t := ptT p) e1 rfl h ?_ rfl rfl, ?_⟩
  · show (match ((pre ++ [p]).map ptT)[pre.length]? with | some u => Tv.at [] u | none => none) = _
    rw [List.getElem?_map, List.getElem?_append_right (Nat.le_refl _), Nat.sub_self]
    rfl
  · show (match ((pre ++ [p]).map ptT)[pre.length]? with | some u => Tv.at [1] u | none => none) = _
    rw [List.getElem?_map, List.getElem?_append_right (Nat.le_refl _), Nat.sub_self]
    rfl
theorem ps_set (pre : List Pt) (p : Pt) (e : Str × Int) : (psT (pre ++ [p])).setAt [pre.length, 1] (.own (.list (p.2.map szI ++ [szI e]))) = psT (pre ++ [(p.1, p.2 ++ [e])]) := by
  show (match ((pre ++ [p]).map ptT)[pre.length]? with | some t1 => Tv.lst (((pre ++ [p]).map ptT).set pre.length (Tv.setAt [1] t1 _)) | none => _) = _
  rw [List.getElem?_map, List.getElem?_append_right (Nat.le_refl _), Nat.sub_self]
  show Tv.lst (((pre ++ [p]).map ptT).set pre.length (Tv.setAt [1] (ptT p) _)) = Tv.lst ((pre ++ [(p.1, p.2 ++ [e])]).map ptT)
  rw [List.map_append, List.set_append_right _ _ (by rw [List.length_map]; exact Nat.le_refl _), List.length_map, Nat.sub_self, List.map_append]
  show Tv.lst (_ ++ [Tv.setAt [1] (ptT p) (.own (.list (p.2.map szI ++ [szI e])))]) = Tv.lst (_ ++ [ptT (p.1, p.2 ++ [e])])
  congr 2
  unfold ptT
  rw [List.map_append]
  rfl
def szS (T : Tv) (W : PD) (a : Int) : Rho := [some (.t T), some (.d W), some (.d (.int a)), none, none, none]
theorem take_size {ps : List Pt} {ws : List Str} (a : Int) (hp : ps.length ≤ 8) (hs : ∀ p ∈ ps, p.2.length ≤ 4) (hw : RW ws) : d_take_size [psT ps, .fr (rowD ws), .fr (.int a)] = match takeSize a ws ps with
    | .inl ps' => .rt (.d .none) [psT ps']
    | .inr e => .exc e (some [psT ps]) := by
  obtain ⟨T, hT⟩ : ∃ T, T = psT ps := ⟨_, rfl⟩
  obtain ⟨W, hW⟩ : ∃ W, W = rowD ws := ⟨_, rfl⟩
  have es : startX 6 [true, false, false] [T, .fr W, .fr (.int a)] = szS T W a := by rw [hT]; rfl
  have ed : d_take_size [T, .fr W, .fr (.int a)] = endX [true, false, false] (S_take_size (startX 6 [true, false, false] [T, .fr W, .fr (.int a)])) := rfl
  have r1 : xRaise "BadRow" ["row"] (aCons (eVar 2) aNil) (szS T W a) = .exc (ec1 "BadRow" a) (some (szS T W a)) := rfl
  have wr : (szS T W a)[1]? = some (some (.d (rowD ws))) := by rw [← hW]; rfl
  rw [← hT, ← hW, ed, es]
  unfold S_take_size
  have l2 : bOf (eOp neD (eCB lenD (aCons (rVar 1) aNil)) (eC (.int 3))) (szS T W a) = .ok (!decide ((ws.length : Int) = 3)) := neiB (len_ws wr) rfl
  by_cases c : ws.length = 3
  case neg =>
    have tk : takeSize a ws ps = .inr (ec1 "BadRow" a) := by
      unfold takeSize
      split
      · exact absurd rfl c
      · rfl
    have t1 := xOrB (b := bOr (bNot (bOf (eCall 1 d_is_word (aCons (eOp ixD (rVar 1) (eC (.int 1))) aNil)))) (bOr (bOf (eOp isND (eCall 1 d_number_in (aCons (eOp ixD (rVar 1) (eC (.int 2))) aNil)) (eC .none))) (bOf (eOp eqD (eImm (eCB lenD (aCons (hVar 0) aNil))) (eC (.int 0)))))) _ true l2 (fun q => by
      rw [decide_eq_false (by omega)] at q
      cases q)
    rw [Bool.or_true] at t1
    rw [tk, xseq_exc ((xif_t t1).trans r1)]
    rfl
  obtain ⟨x, w, n, rfl⟩ : ∃ x w n, ws = [x, w, n] := by
    match ws, c with
    | [x, w, n], _ => exact ⟨x, w, n, rfl⟩
  have hww := hw.w w (by simp)
  have hwn := hw.w n (by simp)
  have e2 : bNot (bOf (eCall 1 d_is_word (aCons (eOp ixD (rVar 1) (eC (.int 1))) aNil))) (szS T W a) = .ok (!isW w) := by
    rw [x_bNot, word_ws wr (by decide) rfl hww.1, x_bind_ok]
  have e3 : bOf (eOp isND (eCall 1 d_number_in (aCons (eOp ixD (rVar 1) (eC (.int 2))) aNil)) (eC .none)) (szS T W a) = .ok (decide (num (cs n) = none)) := bof (by
    rw [op_ok (num_ws wr (by decide) rfl hwn.1) (b := .none) rfl, numD_of]
    cases num (cs n) <;> rfl)
  have e4 : bOf (eOp eqD (eImm (eCB lenD (aCons (hVar 0) aNil))) (eC (.int 0))) (szS T W a) = .ok (decide ((ps.length : Int) = 0)) := xEqB (i := (ps.length : Nat)) (j := 0) _ (ps_len (by rw [← hT]; rfl)) rfl rfl
  have t1 := xOrB _ _ l2 fun _ => xOrB _ _ e2 fun _ => xOrB _ _ e3 fun _ => e4
  rw [show (!decide ((([x, w, n] : List Str).length : Int) = 3)) = false from rfl, Bool.false_or] at t1
  by_cases good : isW w = true ∧ (∃ m, num (cs n) = some m) ∧ ps ≠ []
  case neg =>
    have tk : takeSize a [x, w, n] ps = .inr (ec1 "BadRow" a) := by
      show (match isW w, num (cs n), ps.getLast? with
        | true, some m, some p => _
        | _, _, _ => (.inr (ec1 "BadRow" a) : List Pt ⊕ Ec)) = _
      split
      · rename_i m p h1 h2 h3
        refine absurd ⟨h1, ⟨m, h2⟩, fun z => ?_⟩ good
        rw [z] at h3
        cases h3
      · rfl
    have tt : (!isW w || (decide (num (cs n) = none) || decide ((ps.length : Int) = 0))) = true := by
      cases h1 : isW w with
      | false => rfl
      | true =>
        cases h2 : num (cs n) with
        | none => rfl
        | some m =>
          cases h3 : ps with
          | nil => rfl
          | cons p ps => exact absurd ⟨h1, ⟨m, h2⟩, by rw [h3]; simp⟩ good
    rw [tt] at t1
    rw [tk, xseq_exc ((xif_t t1).trans r1)]
    rfl
  obtain ⟨g1, ⟨m, g2⟩, g3⟩ := good
  obtain ⟨pre, p, rfl⟩ : ∃ pre p, ps = pre ++ [p] := ⟨_, _, (List.dropLast_concat_getLast g3).symm⟩
  have tk : takeSize a [x, w, n] (pre ++ [p]) = if w ∈ p.2.map (·.1) then .inr (ec1 "Twice" a) else if p.2.length = 4 then .inr (ec2 "TooBig" 0 a) else .inl (pre ++ [(p.1, p.2 ++ [(w, m)])]) := by
    show (match isW w, num (cs n), (pre ++ [p]).getLast? with
      | true, some m, some p => _
      | _, _, _ => (.inr (ec1 "BadRow" a) : List Pt ⊕ Ec)) = _
    rw [g1, g2, List.getLast?_concat]
    dsimp only
    rw [List.dropLast_concat]
  rw [g1, g2, show decide (((pre ++ [p]).length : Int) = 0) = false from decide_eq_false (by rw [List.length_append, List.length_singleton]; omega)] at t1
  rw [tk, xseq_nx ((xif_f t1).trans (show (xLift sNext) _ = .nx (szS T W a) from rfl))]
  obtain ⟨q1, q2⟩ := ps_path (ρ := szS T W a) (pre := pre) (p := p) (by rw [← hT]; rfl)
  have hl : p.2.length ≤ 4 := hs p (by simp)
  have al : alR 0 3 [pre.length, 1] (szS T W a) = some [some (.b T), some (.d W), some (.d (.int a)), some (.b (.own (.list (p.2.map szI)))), none, none] := by
    unfold alR
    rw [show treeT (szS T W a) 0 = some T from rfl]
    dsimp only
    rw [hT, q2]
    rfl
  have lcs : eFz (oLc (iPlB 3 pVar) (aTup 2 (asCons (aName 4) (asCons (aName 5) asNil))) gYes (eVar 4) [4, 5]) [some (.b T), some (.d W), some (.d (.int a)), some (.b (.own (.list (p.2.map szI)))), none, none] = .ok (.list ((p.2.map (·.1)).map PyData.str)) := by
    refine fz_l ?_
    rw [List.map_map]
    exact lc_eq (xs := p.2) szI (fun e => PyData.str e.1) rfl (sz (by omega)) fun e he => ⟨_, rfl, rfl⟩
  have t2 : bOf (eOp inD (eOp ixD (rVar 1) (eC (.int 1))) (eFz (oLc (iPlB 3 pVar) (aTup 2 (asCons (aName 4) (asCons (aName 5) asNil))) gYes (eVar 4) [4, 5]))) [some (.b T), some (.d W), some (.d (.int a)), some (.b (.own (.list (p.2.map szI)))), none, none] = .ok (decide (w ∈ p.2.map (·.1))) := bof (in_strs (ix_ws (ws := [x, w, n]) (by rw [← hW]; rfl) (by decide) rfl) lcs)
  have t3 : bOf (eOp eqD (eCB lenD (aCons (rPl 3 pVar) aNil)) (eC (.int 4))) [some (.b T), some (.d W), some (.d (.int a)), some (.b (.own (.list (p.2.map szI)))), none, none] = .ok (decide ((p.2.length : Int) = 4)) := xEqB (i := (p.2.length : Nat)) (j := 4) _ (by rw [cb1 (a := .list (p.2.map szI)) rfl, x_len_l, List.length_map]) rfl rfl
  have ga : eTup (aCons (eOp ixD (rVar 1) (eC (.int 1))) (aCons (eCall 1 d_number_in (aCons (eOp ixD (rVar 1) (eC (.int 2))) aNil)) aNil)) (szS T W a) = .ok (szI (w, m)) := tup2 (ix_ws wr (by decide) rfl) (by rw [num_ws wr (by decide) rfl hwn.1, numD_of, g2])
  have ap := appP_ok (i := 0) (ρ := szS T W a) (x := psT (pre ++ [p])) (gp := fun _ => .ok [pre.length, 1]) (ks := [pre.length, 1]) (ds := p.2.map szI) (by rw [← hT]; rfl) rfl q2 ga (by rw [List.length_map]; exact szl (by omega))
  rw [ps_set] at ap
  have st : ∀ s, xAlias 0 3 (pIx 0 (pIx 0 pVar (eUn negD (eC (.int 1)))) (eC (.int 1))) s (szS T W a) = s [pre.length, 1] (szS T W a) := fun s => by
    unfold xAlias
    rw [show treeT (szS T W a) 0 = some T from rfl]
    dsimp only
    rw [if_pos (show 3 < (szS T W a).length from Nat.lt_of_lt_of_le (by decide : 3 < 6) (Nat.le_refl 6)), q1]
    rfl
  have i1 : ∀ (gt : Rho → R Bool) (sr : Rho → SX) (s : List Nat → Rho → SX) (c : Bool), gt [some (.b T), some (.d W), some (.d (.int a)), some (.b (.own (.list (p.2.map szI)))), none, none] = .ok c → xaIf 0 3 gt sr s [pre.length, 1] (szS T W a) = if c = true then stopX (sr (szS T W a)) else s [pre.length, 1] (szS T W a) := fun gt sr s c h => by
    unfold xaIf
    rw [al]
    dsimp only
    rw [h]
    rfl
  rw [st, i1 _ _ _ _ t2]
  by_cases c1 : w ∈ p.2.map (·.1)
  · rw [if_pos (decide_eq_true c1), if_pos c1]
    rfl
  rw [if_neg (by rw [decide_eq_false c1]; decide), if_neg c1, i1 _ _ _ _ t3]
  by_cases c2 : p.2.length = 4
  · rw [if_pos (decide_eq_true (by omega)), if_pos c2]
    rfl
  rw [if_neg (by rw [decide_eq_false (by omega)]; decide), if_neg c2]
  unfold xaApp xLift
  rw [ap]
  rfl
end K05
namespace K05
open PySem L2 DL
theorem sh_jn {j : Str × Int × Int} (h : okS j.1) : Sh 1 (jnI j) := sh_t (sh_c (sh_s h) (sh_c sh_i (sh_c sh_i sh_0)))
theorem eqv_jn (j y : Str × Int × Int) : PyData.eqv (jnI j) (jnI y) = decide (j = y) := by
  unfold jnI
  simp only [PyData.eqv, PyData.eqvAll]
  obtain ⟨a, b, c⟩ := j
  obtain ⟨a', b', c'⟩ := y
  rw [Bool.eq_iff_iff]
  simp
theorem mem_jnI {js : List (Str × Int × Int)} {y : Str × Int × Int} (hj : ∀ j ∈ js, okS j.1) (hy : okS y.1) : inD (jnI y) (.list (js.map jnI)) = .ok (.bool (decide (y ∈ js))) := by
  unfold inD
  show (inB (.tuple [.str y.1, .int y.2.1, .int y.2.2]) (.list (js.map jnI))).bind _ = _
  rw [inB_t (n := 2) ((sh_jn hy).up (by decide)) (sh_l (sh_m (f := jnI) fun j h => sh_jn (hj j h))) (by decide), x_bind_ok, List.any_map]
  congr 2
  rw [Bool.eq_iff_iff, List.any_eq_true, decide_eq_true_iff]
  constructor
  · rintro ⟨j, hj, h⟩
    have h : PyData.eqv (jnI j) (jnI y) = true := h
    rw [eqv_jn, decide_eq_true_iff] at h
    rw [← h]; exact hj
  · intro h
    exact ⟨y, h, by show PyData.eqv (jnI y) (jnI y) = true; rw [eqv_jn]; exact decide_eq_true rfl⟩
theorem eqN {ga gb : Rho → R PD} {ρ : Rho} {a b : Int} (ha : ga ρ = .ok (.int a)) (hb : gb ρ = .ok (.int b)) : bOf (eOp eqD ga gb) ρ = .ok (decide (a = b)) := xEqB _ ha hb rfl
theorem look_part (l : List PD) (n a : Int) : d_look_part [.list l, .int n, .int a] = if 0 ≤ n ∧ n < (l.length : Int) then .rt (.d .none) else .exc (ec1 "NoPart" a) := by
  have t : bNot (bOf (eChain leD ltD (eC (.int 0)) (rVar 1) (eCB lenD (aCons (rVar 0) aNil)))) [some (.d (.list l)), some (.d (.int n)), some (.d (.int a))] = .ok (!(decide (0 ≤ n) && decide (n < (l.length : Int)))) := by
    have e : eChain leD ltD (eC (.int 0)) (rVar 1) (eCB lenD (aCons (rVar 0) aNil)) [some (.d (.list l)), some (.d (.int n)), some (.d (.int a))] = .ok (.bool (decide (0 ≤ n) && decide (n < (l.length : Int)))) := by
      have e0 : rVar 1 [some (.d (.list l)), some (.d (.int n)), some (.d (.int a))] = .ok (.int n) := rfl
      have el : eCB lenD (aCons (rVar 0) aNil) [some (.d (.list l)), some (.d (.int n)), some (.d (.int a))] = .ok (.int (l.length : Nat)) := by rw [cb1 (a := .list l) rfl, x_len_l]
      rw [x_eChain, x_eC, x_bind_ok, e0, x_bind_ok, show leD (.int 0) (.int n) = R.ok (.bool (decide (0 ≤ n))) from rfl, x_bind_ok]
      by_cases c : 0 ≤ n
      · rw [decide_eq_true c]
        show (R.ok true).bind _ = _
        rw [x_bind_ok, if_pos rfl, el, x_bind_ok]
        rfl
      · rw [decide_eq_false c]
        rfl
    rw [x_bNot, bof e, x_bind_ok]
  show (S_look_part [some (.d (.list l)), some (.d (.int n)), some (.d (.int a))]).fr = _
  unfold S_look_part
  by_cases c : 0 ≤ n ∧ n < (l.length : Int)
  · rw [decide_eq_true c.1, decide_eq_true c.2] at t
    rw [if_f t, if_pos c]
    rfl
  · have : (!(decide (0 ≤ n) && decide (n < (l.length : Int)))) = true := by
      simp only [Bool.not_eq_true', Bool.and_eq_false_iff, decide_eq_false_iff_not]
      omega
    rw [this] at t
    rw [if_t t, if_neg c]
    rfl
def takeJoin (a : Int) (ws : List Str) (many : Nat) (js : List Jn) : List Jn ⊕ Ec := match ws with
  | [_, w, x, y] => (match isW w, num (cs x), num (cs y) with
    | true, some i, some j => if i = j then .inr (ec1 "BadRow" a) else if ¬ (0 ≤ i ∧ i < (many : Int)) then .inr (ec1 "NoPart" a) else if ¬ (0 ≤ j ∧ j < (many : Int)) then .inr (ec1 "NoPart" a) else if (w, i, j) ∈ js then .inr (ec1 "Twice" a) else if js.length = 16 then .inr (ec2 "TooBig" 0 a) else .inl (js ++ [(w, i, j)])
    | _, _, _ => .inr (ec1 "BadRow" a))
  | _ => .inr (ec1 "BadRow" a)
def jnS (T : Tv) (js : List Jn) (W : PD) (a : Int) (v4 v5 : Option Sl) : Rho := [some (.b T), some (.t (.own (.list (js.map jnI)))), some (.d W), some (.d (.int a)), v4, v5]
theorem take_join {ps : List Pt} {js : List Jn} {ws : List Str} (a : Int) (hj : js.length ≤ 16) (hjs : ∀ j ∈ js, okS j.1) (hw : RW ws) : match takeJoin a ws ps.length js with
    | .inl js' => d_take_join [psT ps, .own (.list (js.map jnI)), .fr (rowD ws), .fr (.int a)] = .rt (.d .none) [.own (.list (js'.map jnI))]
    | .inr e => ∃ o, d_take_join [psT ps, .own (.list (js.map jnI)), .fr (rowD ws), .fr (.int a)] = .exc e o := by
  obtain ⟨T, hT⟩ : ∃ T, T = psT ps := ⟨_, rfl⟩
  obtain ⟨W, hW⟩ : ∃ W, W = rowD ws := ⟨_, rfl⟩
  have es : startX 6 [false, true, false, false] [T, .own (.list (js.map jnI)), .fr W, .fr (.int a)] = jnS T js W a none none := by rw [hT]; rfl
  have ed : d_take_join [T, .own (.list (js.map jnI)), .fr W, .fr (.int a)] = endX [false, true, false, false] (S_take_join (startX 6 [false, true, false, false] [T, .own (.list (js.map jnI)), .fr W, .fr (.int a)])) := rfl
  have wr : ∀ v4 v5, (jnS T js W a v4 v5)[2]? = some (some (.d (rowD ws))) := fun _ _ => by rw [← hW]; rfl
  have r1 : ∀ v4 v5, xRaise "BadRow" ["row"] (aCons (eVar 3) aNil) (jnS T js W a v4 v5) = .exc (ec1 "BadRow" a) (some (jnS T js W a v4 v5)) := fun _ _ => rfl
  have nx0 : ∀ v4 v5, (xLift sNext) (jnS T js W a v4 v5) = .nx (jnS T js W a v4 v5) := fun _ _ => rfl
  rw [← hT, ← hW, ed, es]
  unfold S_take_join
  have l2 : bOf (eOp neD (eCB lenD (aCons (rVar 2) aNil)) (eC (.int 4))) (jnS T js W a none none) = .ok (!decide ((ws.length : Int) = 4)) := neiB (len_ws (wr _ _)) rfl
  by_cases c : ws.length = 4
  case neg =>
    have tk : takeJoin a ws ps.length js = .inr (ec1 "BadRow" a) := by
      unfold takeJoin
      split
      · exact absurd rfl c
      · rfl
    have t1 := xOrB (b := bNot (bOf (eCall 1 d_is_word (aCons (eOp ixD (rVar 2) (eC (.int 1))) aNil)))) _ true l2 (fun q => by
      rw [decide_eq_false (by omega)] at q
      cases q)
    rw [Bool.or_true] at t1
    rw [tk, xseq_exc ((xif_t t1).trans (r1 _ _))]
    exact ⟨_, rfl⟩
  obtain ⟨z, w, x, y, rfl⟩ : ∃ z w x y, ws = [z, w, x, y] := by
    match ws, c with
    | [z, w, x, y], _ => exact ⟨z, w, x, y, rfl⟩
  have hww := hw.w w (by simp)
  have hwx := hw.w x (by simp)
  have hwy := hw.w y (by simp)
  have e2 : bNot (bOf (eCall 1 d_is_word (aCons (eOp ixD (rVar 2) (eC (.int 1))) aNil))) (jnS T js W a none none) = .ok (!isW w) := by
    rw [x_bNot, word_ws (wr _ _) (by decide) rfl hww.1, x_bind_ok]
  have t1 := xOrB _ _ l2 fun _ => e2
  rw [show (!decide ((([z, w, x, y] : List Str).length : Int) = 4)) = false from rfl, Bool.false_or] at t1
  have tk : takeJoin a [z, w, x, y] ps.length js = (match isW w, num (cs x), num (cs y) with
    | true, some i, some j => if i = j then .inr (ec1 "BadRow" a) else if ¬ (0 ≤ i ∧ i < (ps.length : Int)) then .inr (ec1 "NoPart" a) else if ¬ (0 ≤ j ∧ j < (ps.length : Int)) then .inr (ec1 "NoPart" a) else if (w, i, j) ∈ js then .inr (ec1 "Twice" a) else if js.length = 16 then .inr (ec2 "TooBig" 0 a) else .inl (js ++ [(w, i, j)])
    | _, _, _ => .inr (ec1 "BadRow" a)) := rfl
  rw [tk]
  cases g1 : isW w with
  | false =>
    rw [g1] at t1
    rw [xseq_exc ((xif_t t1).trans (r1 _ _))]
    exact ⟨_, rfl⟩
  | true =>
    rw [g1] at t1
    have hyv : okS w := hww.2
    rw [xseq_nx ((xif_f t1).trans (nx0 _ _))]
    have s4 : xLift (sSet 4 (eCall 1 d_number_in (aCons (eOp ixD (rVar 2) (eC (.int 2))) aNil))) (jnS T js W a none none) = .nx (jnS T js W a (some (.d (numD (cs x)))) none) := by
      unfold xLift
      rw [set_ok (num_ws (wr _ _) (by decide) rfl hwx.1)]
      rfl
    have s5 : xLift (sSet 5 (eCall 1 d_number_in (aCons (eOp ixD (rVar 2) (eC (.int 3))) aNil))) (jnS T js W a (some (.d (numD (cs x)))) none) = .nx (jnS T js W a (some (.d (numD (cs x)))) (some (.d (numD (cs y))))) := by
      unfold xLift
      rw [set_ok (num_ws (wr _ _) (by decide) rfl hwy.1)]
      rfl
    rw [xseq_nx s4, xseq_nx s5]
    have n4 : bOf (eOp isND (rVar 4) (eC .none)) (jnS T js W a (some (.d (numD (cs x)))) (some (.d (numD (cs y))))) = .ok (decide (num (cs x) = none)) := bof (by
      rw [op_ok (a := numD (cs x)) (b := .none) rfl rfl, numD_of]
      cases num (cs x) <;> rfl)
    have n5 : bOf (eOp isND (rVar 5) (eC .none)) (jnS T js W a (some (.d (numD (cs x)))) (some (.d (numD (cs y))))) = .ok (decide (num (cs y) = none)) := bof (by
      rw [op_ok (a := numD (cs y)) (b := .none) rfl rfl, numD_of]
      cases num (cs y) <;> rfl)
    cases gx : num (cs x) with
    | none =>
      rw [gx] at n4
      have t2 := xOrB (b := bOr (bOf (eOp isND (rVar 5) (eC .none))) (bOf (eOp eqD (rVar 4) (rVar 5)))) _ true n4 (fun q => by cases q)
      rw [xseq_exc ((xif_t t2).trans (r1 _ _))]
      exact ⟨_, rfl⟩
    | some i =>
      have vx : numD (cs x) = .int i := by rw [numD_of, gx]
      rw [gx] at n4
      cases gy : num (cs y) with
      | none =>
        rw [gy] at n5
        have t2 := xOrB _ _ n4 fun _ => xOrB (b := bOf (eOp eqD (rVar 4) (rVar 5))) _ true n5 (fun q => by cases q)
        rw [xseq_exc ((xif_t t2).trans (r1 _ _))]
        exact ⟨_, rfl⟩
      | some j =>
        have vy : numD (cs y) = .int j := by rw [numD_of, gy]
        rw [gy] at n5
        rw [vx, vy] at n4 n5 ⊢
        have n6 : bOf (eOp eqD (rVar 4) (rVar 5)) (jnS T js W a (some (.d (.int i))) (some (.d (.int j)))) = .ok (decide (i = j)) := eqN rfl rfl
        have t2 := xOrB _ _ n4 fun _ => xOrB _ _ n5 fun _ => n6
        rw [show decide ((some i : Option Int) = none) = false from rfl, show decide ((some j : Option Int) = none) = false from rfl, Bool.false_or, Bool.false_or] at t2
        dsimp only
        by_cases c1 : i = j
        · rw [decide_eq_true c1] at t2
          rw [if_pos c1, xseq_exc ((xif_t t2).trans (r1 _ _))]
          exact ⟨_, rfl⟩
        rw [decide_eq_false c1] at t2
        rw [if_neg c1, xseq_nx ((xif_f t2).trans (nx0 _ _))]
        have hp : ∀ v4 v5, hPl 0 pVar (jnS T js W a v4 v5) = .ok (.list (ps.map ptI)) := fun v4 v5 => by
          unfold hPl
          rw [at_p (ks := []) (x := psT ps) (t := psT ps) rfl (by rw [← hT]; rfl) rfl]
          exact toD_ps ps
        have lk : ∀ {k : Nat} {n : Int} {v4 v5 : Option Sl}, hVar k (jnS T js W a v4 v5) = .ok (.int n) → xLift (sDrop (eCallH 3 d_look_part (aCons (hPl 0 pVar) (aCons (hVar k) (aCons (hVar 3) aNil))))) (jnS T js W a v4 v5) = if 0 ≤ n ∧ n < (ps.length : Int) then .nx (jnS T js W a v4 v5) else .exc (ec1 "NoPart" a) none := fun {k n v4 v5} h => by
          have ea : aCons (hPl 0 pVar) (aCons (hVar k) (aCons (hVar 3) aNil)) (jnS T js W a v4 v5) = .ok [.list (ps.map ptI), .int n, .int a] := by
            rw [x_aCons, hp, x_bind_ok, x_aCons, h, x_bind_ok, x_aCons, show hVar 3 (jnS T js W a v4 v5) = .ok (.int a) from rfl, x_bind_ok, x_aNil, x_bind_ok, x_bind_ok, x_bind_ok]
          have lp := look_part (ps.map ptI) n a
          rw [List.length_map] at lp
          show SX.lift (SR.of (eCallH 3 d_look_part (aCons (hPl 0 pVar) (aCons (hVar k) (aCons (hVar 3) aNil))) (jnS T js W a v4 v5)) _) = _
          rw [x_eCallH, ea, x_bind_ok]
          show SX.lift (SR.of (((d_look_part [.list (ps.map ptI), .int n, .int a]).toE).bind immO) _) = _
          rw [lp]
          by_cases q : 0 ≤ n ∧ n < (ps.length : Int)
          · rw [if_pos q, if_pos q]; rfl
          · rw [if_neg q, if_neg q]; rfl
        have k1 := lk (k := 4) (n := i) (v4 := some (.d (.int i))) (v5 := some (.d (.int j))) rfl
        have k2 := lk (k := 5) (n := j) (v4 := some (.d (.int i))) (v5 := some (.d (.int j))) rfl
        by_cases c2 : 0 ≤ i ∧ i < (ps.length : Int)
        case neg =>
          rw [if_neg c2] at k1
          rw [if_pos c2, xseq_exc k1]
          exact ⟨_, rfl⟩
        rw [if_pos c2] at k1
        rw [if_neg (fun h => h c2), xseq_nx k1]
        by_cases c3 : 0 ≤ j ∧ j < (ps.length : Int)
        case neg =>
          rw [if_neg c3] at k2
          rw [if_pos c3, xseq_exc k2]
          exact ⟨_, rfl⟩
        rw [if_pos c3] at k2
        rw [if_neg (fun h => h c3), xseq_nx k2]
        have tp : eTup (aCons (eOp ixD (rVar 2) (eC (.int 1))) (aCons (eVar 4) (aCons (eVar 5) aNil))) (jnS T js W a (some (.d (.int i))) (some (.d (.int j)))) = .ok (jnI (w, i, j)) := tup3 (ix_ws (wr _ _) (by decide) rfl) rfl rfl
        have t3 : bOf (eOp inD (eTup (aCons (eOp ixD (rVar 2) (eC (.int 1))) (aCons (eVar 4) (aCons (eVar 5) aNil)))) (rVar 1)) (jnS T js W a (some (.d (.int i))) (some (.d (.int j)))) = .ok (decide ((w, i, j) ∈ js)) := bof (by
          rw [op_ok (b := .list (js.map jnI)) tp rfl]
          exact mem_jnI hjs hyv)
        by_cases c4 : (w, i, j) ∈ js
        · rw [decide_eq_true c4] at t3
          rw [if_pos c4, xseq_exc ((xif_t t3).trans (show xRaise "Twice" ["row"] (aCons (eVar 3) aNil) _ = .exc (ec1 "Twice" a) (some (jnS T js W a (some (.d (.int i))) (some (.d (.int j))))) from rfl))]
          exact ⟨_, rfl⟩
        rw [decide_eq_false c4] at t3
        rw [if_neg c4, xseq_nx ((xif_f t3).trans (nx0 _ _))]
        have t4 : bOf (eOp eqD (eCB lenD (aCons (rVar 1) aNil)) (eC (.int 16))) (jnS T js W a (some (.d (.int i))) (some (.d (.int j)))) = .ok (decide ((js.length : Int) = 16)) := eqN (by rw [cb1 (a := .list (js.map jnI)) rfl, x_len_l, List.length_map]) rfl
        by_cases c5 : js.length = 16
        · rw [decide_eq_true (by omega)] at t4
          rw [if_pos c5, xseq_exc ((xif_t t4).trans (show xRaise "TooBig" ["claim", "row"] (aCons (eC (.int 0)) (aCons (eVar 3) aNil)) _ = .exc (ec2 "TooBig" 0 a) (some (jnS T js W a (some (.d (.int i))) (some (.d (.int j))))) from rfl))]
          exact ⟨_, rfl⟩
        rw [decide_eq_false (by omega)] at t4
        rw [if_neg c5, xseq_nx ((xif_f t4).trans (nx0 _ _))]
        have ap : sAppend 1 (eTup (aCons (eOp ixD (rVar 2) (eC (.int 1))) (aCons (eVar 4) (aCons (eVar 5) aNil)))) (jnS T js W a (some (.d (.int i))) (some (.d (.int j)))) = .nx (jnS T (js ++ [(w, i, j)]) W a (some (.d (.int i))) (some (.d (.int j)))) := by
          rw [x_sAppend]
          show SR.of (eTup _ _) (fun y => if (js.map jnI).length < sizeLine then SR.nx _ else .bad) = _
          rw [tp, x_of_ok, if_pos (by rw [List.length_map]; exact szl (by omega))]
          unfold jnS
          rw [List.map_append]
          rfl
        show endX _ (SX.lift (sAppend 1 (eTup (aCons (eOp ixD (rVar 2) (eC (.int 1))) (aCons (eVar 4) (aCons (eVar 5) aNil)))) (jnS T js W a (some (.d (.int i))) (some (.d (.int j)))))) = _
        rw [ap]
        rfl
end K05
namespace K05
open PySem L2 DL
def takeStep (a : Int) (ws : List Str) (many : Nat) (st : List Sp) : List Sp ⊕ Ec := match ws with
  | [_, w, x] => (match isW w, num (cs x) with
    | true, some i => if ¬ (0 ≤ i ∧ i < (many : Int)) then .inr (ec1 "NoPart" a) else if st.length = 8 then .inr (ec2 "TooBig" 0 a) else .inl (st ++ [(w, i)])
    | _, _ => .inr (ec1 "BadRow" a))
  | _ => .inr (ec1 "BadRow" a)
def stpS (T : Tv) (st : List Sp) (W : PD) (a : Int) : Rho := [some (.b T), some (.t (.own (.list (st.map spI)))), some (.d W), some (.d (.int a))]
theorem take_step {ps : List Pt} {st : List Sp} {ws : List Str} (a : Int) (hj : st.length ≤ 8) (hw : RW ws) : match takeStep a ws ps.length st with
    | .inl st' => d_take_step [psT ps, .own (.list (st.map spI)), .fr (rowD ws), .fr (.int a)] = .rt (.d .none) [.own (.list (st'.map spI))]
    | .inr e => ∃ o, d_take_step [psT ps, .own (.list (st.map spI)), .fr (rowD ws), .fr (.int a)] = .exc e o := by
  obtain ⟨T, hT⟩ : ∃ T, T = psT ps := ⟨_, rfl⟩
  obtain ⟨W, hW⟩ : ∃ W, W = rowD ws := ⟨_, rfl⟩
  have es : startX 4 [false, true, false, false] [T, .own (.list (st.map spI)), .fr W, .fr (.int a)] = stpS T st W a := by rw [hT]; rfl
  have ed : d_take_step [T, .own (.list (st.map spI)), .fr W, .fr (.int a)] = endX [false, true, false, false] (S_take_step (startX 4 [false, true, false, false] [T, .own (.list (st.map spI)), .fr W, .fr (.int a)])) := rfl
  have wr : (stpS T st W a)[2]? = some (some (.d (rowD ws))) := by rw [← hW]; rfl
  have r1 : xRaise "BadRow" ["row"] (aCons (eVar 3) aNil) (stpS T st W a) = .exc (ec1 "BadRow" a) (some (stpS T st W a)) := rfl
  have nx0 : (xLift sNext) (stpS T st W a) = .nx (stpS T st W a) := rfl
  rw [← hT, ← hW, ed, es]
  unfold S_take_step
  have l2 : bOf (eOp neD (eCB lenD (aCons (rVar 2) aNil)) (eC (.int 3))) (stpS T st W a) = .ok (!decide ((ws.length : Int) = 3)) := neiB (len_ws wr) rfl
  by_cases c : ws.length = 3
  case neg =>
    have tk : takeStep a ws ps.length st = .inr (ec1 "BadRow" a) := by
      unfold takeStep
      split
      · exact absurd rfl c
      · rfl
    have t1 := xOrB (b := bOr (bNot (bOf (eCall 1 d_is_word (aCons (eOp ixD (rVar 2) (eC (.int 1))) aNil)))) (bOf (eOp isND (eCall 1 d_number_in (aCons (eOp ixD (rVar 2) (eC (.int 2))) aNil)) (eC .none)))) _ true l2 (fun q => by
      rw [decide_eq_false (by omega)] at q
      cases q)
    rw [Bool.or_true] at t1
    rw [tk, xseq_exc ((xif_t t1).trans r1)]
    exact ⟨_, rfl⟩
  obtain ⟨z, w, x, rfl⟩ : ∃ z w x, ws = [z, w, x] := by
    match ws, c with
    | [z, w, x], _ => exact ⟨z, w, x, rfl⟩
  have hww := hw.w w (by simp)
  have hwx := hw.w x (by simp)
  have e2 : bNot (bOf (eCall 1 d_is_word (aCons (eOp ixD (rVar 2) (eC (.int 1))) aNil))) (stpS T st W a) = .ok (!isW w) := by
    rw [x_bNot, word_ws wr (by decide) rfl hww.1, x_bind_ok]
  have en := num_ws wr (by decide) (n := 2) rfl hwx.1
  have e3 : bOf (eOp isND (eCall 1 d_number_in (aCons (eOp ixD (rVar 2) (eC (.int 2))) aNil)) (eC .none)) (stpS T st W a) = .ok (decide (num (cs x) = none)) := bof (by
    rw [op_ok en (b := .none) rfl, numD_of]
    cases num (cs x) <;> rfl)
  have t1 := xOrB _ _ l2 fun _ => xOrB _ _ e2 fun _ => e3
  rw [show (!decide ((([z, w, x] : List Str).length : Int) = 3)) = false from rfl, Bool.false_or] at t1
  have tk : takeStep a [z, w, x] ps.length st = (match isW w, num (cs x) with
    | true, some i => if ¬ (0 ≤ i ∧ i < (ps.length : Int)) then .inr (ec1 "NoPart" a) else if st.length = 8 then .inr (ec2 "TooBig" 0 a) else .inl (st ++ [(w, i)])
    | _, _ => .inr (ec1 "BadRow" a)) := rfl
  rw [tk]
  cases g1 : isW w with
  | false =>
    rw [g1] at t1
    rw [xseq_exc ((xif_t t1).trans r1)]
    exact ⟨_, rfl⟩
  | true =>
    rw [g1] at t1
    cases gx : num (cs x) with
    | none =>
      rw [gx] at t1
      rw [xseq_exc ((xif_t t1).trans r1)]
      exact ⟨_, rfl⟩
    | some i =>
      rw [gx] at t1
      have vx : numD (cs x) = .int i := by rw [numD_of, gx]
      rw [vx] at en
      dsimp only
      rw [xseq_nx ((xif_f t1).trans nx0)]
      have hp : hPl 0 pVar (stpS T st W a) = .ok (.list (ps.map ptI)) := by
        unfold hPl
        rw [at_p (ks := []) (x := psT ps) (t := psT ps) rfl (by rw [← hT]; rfl) rfl]
        exact toD_ps ps
      have k1 : xLift (sDrop (eCallH 3 d_look_part (aCons (hPl 0 pVar) (aCons (eCall 1 d_number_in (aCons (eOp ixD (rVar 2) (eC (.int 2))) aNil)) (aCons (hVar 3) aNil))))) (stpS T st W a) = if 0 ≤ i ∧ i < (ps.length : Int) then .nx (stpS T st W a) else .exc (ec1 "NoPart" a) none := by
        have ea : aCons (hPl 0 pVar) (aCons (eCall 1 d_number_in (aCons (eOp ixD (rVar 2) (eC (.int 2))) aNil)) (aCons (hVar 3) aNil)) (stpS T st W a) = .ok [.list (ps.map ptI), .int i, .int a] := by
          rw [x_aCons, hp, x_bind_ok, x_aCons, en, x_bind_ok, x_aCons, show hVar 3 (stpS T st W a) = .ok (.int a) from rfl, x_bind_ok, x_aNil, x_bind_ok, x_bind_ok, x_bind_ok]
        have lp := look_part (ps.map ptI) i a
        rw [List.length_map] at lp
        show SX.lift (SR.of (eCallH 3 d_look_part _ (stpS T st W a)) _) = _
        rw [x_eCallH, ea, x_bind_ok]
        show SX.lift (SR.of (((d_look_part [.list (ps.map ptI), .int i, .int a]).toE).bind immO) _) = _
        rw [lp]
        by_cases q : 0 ≤ i ∧ i < (ps.length : Int)
        · rw [if_pos q, if_pos q]; rfl
        · rw [if_neg q, if_neg q]; rfl
      by_cases c2 : 0 ≤ i ∧ i < (ps.length : Int)
      case neg =>
        rw [if_neg c2] at k1
        rw [if_pos c2, xseq_exc k1]
        exact ⟨_, rfl⟩
      rw [if_pos c2] at k1
      rw [if_neg (fun h => h c2), xseq_nx k1]
      have t4 : bOf (eOp eqD (eCB lenD (aCons (rVar 1) aNil)) (eC (.int 8))) (stpS T st W a) = .ok (decide ((st.length : Int) = 8)) := eqN (by rw [cb1 (a := .list (st.map spI)) rfl, x_len_l, List.length_map]) rfl
      by_cases c5 : st.length = 8
      · rw [decide_eq_true (by omega)] at t4
        rw [if_pos c5, xseq_exc ((xif_t t4).trans (show xRaise "TooBig" ["claim", "row"] (aCons (eC (.int 0)) (aCons (eVar 3) aNil)) _ = .exc (ec2 "TooBig" 0 a) (some (stpS T st W a)) from rfl))]
        exact ⟨_, rfl⟩
      rw [decide_eq_false (by omega)] at t4
      rw [if_neg c5, xseq_nx ((xif_f t4).trans nx0)]
      have tp : eTup (aCons (eOp ixD (rVar 2) (eC (.int 1))) (aCons (eCall 1 d_number_in (aCons (eOp ixD (rVar 2) (eC (.int 2))) aNil)) aNil)) (stpS T st W a) = .ok (spI (w, i)) := tup2 (ix_ws wr (by decide) rfl) en
      have ap : sAppend 1 (eTup (aCons (eOp ixD (rVar 2) (eC (.int 1))) (aCons (eCall 1 d_number_in (aCons (eOp ixD (rVar 2) (eC (.int 2))) aNil)) aNil))) (stpS T st W a) = .nx (stpS T (st ++ [(w, i)]) W a) := by
        rw [x_sAppend]
        show SR.of (eTup _ _) (fun y => if (st.map spI).length < sizeLine then SR.nx _ else .bad) = _
        rw [tp, x_of_ok, if_pos (by rw [List.length_map]; exact szl (by omega))]
        unfold stpS
        rw [List.map_append]
        rfl
      show endX _ (SX.lift (sAppend 1 (eTup (aCons (eOp ixD (rVar 2) (eC (.int 1))) (aCons (eCall 1 d_number_in (aCons (eOp ixD (rVar 2) (eC (.int 2))) aNil)) aNil))) (stpS T st W a))) = _
      rw [ap]
      rfl
end K05
namespace K05
open PySem L2 DL
noncomputable section
abbrev TSt := List Pt × List Jn × List Sp
def wPart : Str := Str.ofString "part"
def wSize : Str := Str.ofString "size"
def wJoin : Str := Str.ofString "join"
def wStep : Str := Str.ofString "step"
structure TOK (q : TSt) : Prop where
  p : q.1.length ≤ 8
  s : ∀ p ∈ q.1, p.2.length ≤ 4
  j : q.2.1.length ≤ 16
  jw : ∀ j ∈ q.2.1, okS j.1
  t : q.2.2.length ≤ 8
def takeRow (ks : Ks) (a : Int) (ws : List Str) (s : TSt) : TSt ⊕ Ec :=
  if ws.head? = some wPart then (match takePart ks a ws s.1 with | .inl p => .inl (p, s.2) | .inr e => .inr e)
  else if ws.head? = some wSize then (match takeSize a ws s.1 with | .inl p => .inl (p, s.2) | .inr e => .inr e)
  else if ws.head? = some wJoin then (match takeJoin a ws s.1.length s.2.1 with | .inl j => .inl (s.1, j, s.2.2) | .inr e => .inr e)
  else if ws.head? = some wStep then (match takeStep a ws s.1.length s.2.2 with | .inl t => .inl (s.1, s.2.1, t) | .inr e => .inr e)
  else .inr (ec1 "BadRow" a)
theorem TOK.row {ks : Ks} {a : Int} {ws : List Str} {s s' : TSt} (h : TOK s) (hw : RW ws) (e : takeRow ks a ws s = .inl s') : TOK s' := by
  unfold takeRow at e
  split at e
  · cases t : takePart ks a ws s.1 with
    | inr x => rw [t] at e; cases e
    | inl p =>
      rw [t] at e; cases e
      unfold takePart at t
      split at t
      · split at t
        · split at t
          · split at t
            · cases t
            · rename_i w _ _ _
              cases t
              have := h.p
              exact ⟨by simp; omega, fun q hq => (List.mem_append.mp hq).elim (h.s q) fun z => by rw [List.mem_singleton.mp z]; simp, h.j, h.jw, h.t⟩
          · cases t
        · cases t
      · cases t
  · split at e
    · cases t : takeSize a ws s.1 with
      | inr x => rw [t] at e; cases e
      | inl p =>
        rw [t] at e; cases e
        unfold takeSize at t
        split at t
        · split at t
          · rename_i x w n o1 o2 o3 b m q e1 e2 hl
            split at t
            · cases t
            · split at t
              · cases t
              · rename_i c
                cases t
                have hm : q ∈ s.1 := List.mem_of_getLast? hl
                have h4 := h.s q hm
                have hp := h.p
                have hn : 0 < s.1.length := List.length_pos_of_mem hm
                refine ⟨by simp; omega, fun r hr => ?_, h.j, h.jw, h.t⟩
                rcases List.mem_append.mp hr with z | z
                · exact h.s r ((List.dropLast_subset _) z)
                · rw [List.mem_singleton.mp z]
                  simp
                  omega
          · cases t
        · cases t
    · split at e
      · cases t : takeJoin a ws s.1.length s.2.1 with
        | inr x => rw [t] at e; cases e
        | inl p =>
          rw [t] at e; cases e
          unfold takeJoin at t
          split at t
          · rename_i z w x y
            split at t
            · split at t
              · cases t
              · split at t
                · cases t
                · split at t
                  · cases t
                  · split at t
                    · cases t
                    · split at t
                      · cases t
                      · cases t
                        have hj := h.j
                        refine ⟨h.p, h.s, by simp; omega, fun r hr => ?_, h.t⟩
                        rcases List.mem_append.mp hr with z | z
                        · exact h.jw r z
                        · rw [List.mem_singleton.mp z]
                          exact (hw.w _ (List.mem_cons_of_mem _ List.mem_cons_self)).2
            · cases t
          · cases t
      · split at e
        · cases t : takeStep a ws s.1.length s.2.2 with
          | inr x => rw [t] at e; cases e
          | inl p =>
            rw [t] at e; cases e
            unfold takeStep at t
            split at t
            · split at t
              · split at t
                · cases t
                · split at t
                  · cases t
                  · cases t
                    have ht := h.t
                    exact ⟨h.p, h.s, h.j, h.jw, by simp; omega⟩
              · cases t
            · cases t
        · cases e
def rtA : Rho → PD → R Rho := aTup 2 (asCons (aName 5) (asCons (aName 6) asNil))
def rtB : Rho → SR := (sIf (bOf (eOp eqD (eOp ixD (rVar 6) (eC (.int 0))) (eC (.str (PySem.Str.ofString "part"))))) (sDropX [.e, .x 2, .e, .e] [2] d_take_part (maCons (mFr (eVar 0)) (maCons (mVar 2) (maCons (mFr (eVar 6)) (maCons (mFr (eVar 5)) xaNil))))) (sIf (bOf (eOp eqD (eOp ixD (rVar 6) (eC (.int 0))) (eC (.str (PySem.Str.ofString "size"))))) (sDropX [.x 2, .e, .e] [2] d_take_size (maCons (mVar 2) (maCons (mFr (eVar 6)) (maCons (mFr (eVar 5)) xaNil)))) (sIf (bOf (eOp eqD (eOp ixD (rVar 6) (eC (.int 0))) (eC (.str (PySem.Str.ofString "join"))))) (sDropX [.b 2, .x 3, .e, .e] [3] d_take_join (maCons (atP 2 pVar) (maCons (mVar 3) (maCons (mFr (eVar 6)) (maCons (mFr (eVar 5)) xaNil))))) (sIf (bOf (eOp eqD (eOp ixD (rVar 6) (eC (.int 0))) (eC (.str (PySem.Str.ofString "step"))))) (sDropX [.b 2, .x 4, .e, .e] [4] d_take_step (maCons (atP 2 pVar) (maCons (mVar 4) (maCons (mFr (eVar 6)) (maCons (mFr (eVar 5)) xaNil))))) (sRaise "BadRow" ["row"] (aCons (eVar 5) aNil))))))
def rtS (K z : PD) (P : Tv) (j t : List PD) (v5 v6 : Option Sl) : Rho := [some (.d K), some (.d z), some (.t P), some (.o (.list j)), some (.o (.list t)), v5, v6, none, none]
theorem dropx_nx {ks : List AK} {vs : List Nat} {f : List Tv → XR} {gr : Rho → R (List Tv)} {ρ ρ1 : Rho} {ts ts' : List Tv} {x : PD} (e : gr ρ = .ok ts) (h : f ts = .rt (.d x) ts') (b : backX ks ts' (killD ρ vs) = some ρ1) : sDropX ks vs f gr ρ = .nx ρ1 := by
  unfold sDropX callXS
  rw [e, x_of_ok, h]
  simp only [b]
theorem dropx_exc {ks : List AK} {vs : List Nat} {f : List Tv → XR} {gr : Rho → R (List Tv)} {ρ : Rho} {ts : List Tv} {c : Ec} (e : gr ρ = .ok ts) (h : ∃ o, f ts = .exc c o) : sDropX ks vs f gr ρ = .exc c := by
  obtain ⟨o, h⟩ := h
  unfold sDropX callXS
  rw [e, x_of_ok, h]
theorem first_is {K z : PD} {P : Tv} {j t : List PD} {v5 : Option Sl} {ws : List Str} {x : Str} {r : List Str} (hws : ws = x :: r) (y : Str) : bOf (eOp eqD (eOp ixD (rVar 6) (eC (.int 0))) (eC (.str y))) (rtS K z P j t v5 (some (.d (rowD ws)))) = .ok (decide (x = y)) := by
  refine bof ?_
  rw [op_ok (a := .str x) (b := .str y) ((op_ok (a := rowD ws) (b := .int 0) rfl rfl).trans (rw_ix (by decide) (by rw [hws]; rfl))) rfl, x_eq, x_eqB_s]; rfl
theorem take_row {ks : Ks} {s : TSt} {ws : List Str} (z : PD) (a : Int) (hk : ks.length ≤ 1000) (h : TOK s) (hw : RW ws) :
    rtB (rtS (kD ks) z (psT s.1) (s.2.1.map jnI) (s.2.2.map spI) (some (.d (.int a))) (some (.d (rowD ws)))) = match takeRow ks a ws s with
    | .inl s' => .nx (rtS (kD ks) z (psT s'.1) (s'.2.1.map jnI) (s'.2.2.map spI) (some (.d (.int a))) (some (.d (rowD ws))))
    | .inr e => .exc e := by
  obtain ⟨x, r, hws⟩ : ∃ x r, ws = x :: r := by
    cases ws with
    | nil => exact absurd rfl hw.ne
    | cons x r => exact ⟨x, r, rfl⟩
  have hh : ws.head? = some x := by rw [hws]; rfl
  obtain ⟨ps, js, st⟩ := s
  have fi := fun y => first_is (K := kD ks) (z := z) (P := psT ps) (j := js.map jnI) (t := st.map spI) (v5 := some (.d (.int a))) hws y
  have tp := take_part (ks := ks) a hk h.p hw
  have tz := take_size (ps := ps) a h.p h.s hw
  have tj := take_join (ps := ps) a h.j h.jw hw
  have tt := take_step (ps := ps) a h.t hw
  unfold takeRow rtB
  rw [hh]
  simp only [Option.some.injEq]
  generalize hT : psT ps = T at fi tp tz tj tt ⊢
  by_cases c1 : x = wPart
  · rw [if_pos c1, if_t ((fi _).trans (by rw [decide_eq_true (show x = Str.ofString "part" from c1)]))]
    have eg : maCons (mFr (eVar 0)) (maCons (mVar 2) (maCons (mFr (eVar 6)) (maCons (mFr (eVar 5)) xaNil))) (rtS (kD ks) z T (js.map jnI) (st.map spI) (some (.d (.int a))) (some (.d (rowD ws)))) = .ok [.fr (kD ks), T, .fr (rowD ws), .fr (.int a)] := rfl
    cases e : takePart ks a ws ps with
    | inl p => rw [e] at tp; exact dropx_nx eg tp rfl
    | inr e' => rw [e] at tp; exact dropx_exc eg ⟨_, tp⟩
  rw [if_neg c1, if_f ((fi _).trans (by rw [decide_eq_false (show ¬ x = Str.ofString "part" from c1)]))]
  by_cases c2 : x = wSize
  · rw [if_pos c2, if_t ((fi _).trans (by rw [decide_eq_true (show x = Str.ofString "size" from c2)]))]
    have eg : maCons (mVar 2) (maCons (mFr (eVar 6)) (maCons (mFr (eVar 5)) xaNil)) (rtS (kD ks) z T (js.map jnI) (st.map spI) (some (.d (.int a))) (some (.d (rowD ws)))) = .ok [T, .fr (rowD ws), .fr (.int a)] := rfl
    cases e : takeSize a ws ps with
    | inl p => rw [e] at tz; exact dropx_nx eg tz rfl
    | inr e' => rw [e] at tz; exact dropx_exc eg ⟨_, tz⟩
  rw [if_neg c2, if_f ((fi _).trans (by rw [decide_eq_false (show ¬ x = Str.ofString "size" from c2)]))]
  by_cases c3 : x = wJoin
  · rw [if_pos c3, if_t ((fi _).trans (by rw [decide_eq_true (show x = Str.ofString "join" from c3)]))]
    have eg : maCons (atP 2 pVar) (maCons (mVar 3) (maCons (mFr (eVar 6)) (maCons (mFr (eVar 5)) xaNil))) (rtS (kD ks) z T (js.map jnI) (st.map spI) (some (.d (.int a))) (some (.d (rowD ws)))) = .ok [T, .own (.list (js.map jnI)), .fr (rowD ws), .fr (.int a)] := rfl
    cases e : takeJoin a ws ps.length js with
    | inl p => rw [e] at tj; exact dropx_nx eg tj (by show _ = some (rtS (kD ks) z (psT ps) _ _ _ _); rw [hT]; rfl)
    | inr e' => rw [e] at tj; exact dropx_exc eg tj
  rw [if_neg c3, if_f ((fi _).trans (by rw [decide_eq_false (show ¬ x = Str.ofString "join" from c3)]))]
  by_cases c4 : x = wStep
  · rw [if_pos c4, if_t ((fi _).trans (by rw [decide_eq_true (show x = Str.ofString "step" from c4)]))]
    have eg : maCons (atP 2 pVar) (maCons (mVar 4) (maCons (mFr (eVar 6)) (maCons (mFr (eVar 5)) xaNil))) (rtS (kD ks) z T (js.map jnI) (st.map spI) (some (.d (.int a))) (some (.d (rowD ws)))) = .ok [T, .own (.list (st.map spI)), .fr (rowD ws), .fr (.int a)] := rfl
    cases e : takeStep a ws ps.length st with
    | inl p => rw [e] at tt; exact dropx_nx eg tt (by show _ = some (rtS (kD ks) z (psT ps) _ _ _ _); rw [hT]; rfl)
    | inr e' => rw [e] at tt; exact dropx_exc eg tt
  rw [if_neg c4, if_f ((fi _).trans (by rw [decide_eq_false (show ¬ x = Str.ofString "step" from c4)]))]
  rfl
def readRows (ks : Ks) : List (Nat × List Str) → TSt → TSt ⊕ Ec
  | [], s => .inl s
  | q :: l, s => match takeRow ks q.1 q.2 s with
    | .inl s' => readRows ks l s'
    | .inr e => .inr e
theorem forD_stop {a : Rho → PD → R Rho} {b : Rho → SR} {x : PD} {xs : List PD} {ρ ρ1 : Rho} {is : List Nat} {c : Ec} (h1 : a ρ x = .ok ρ1) (h2 : b ρ1 = .exc c) : forD a (killS is b) (x :: xs) ρ = .exc c := by
  unfold forD
  rw [h1]
  simp only [x_killS, h2]
  rfl
theorem forD_go {a : Rho → PD → R Rho} {b : Rho → SR} {x : PD} {xs : List PD} {ρ ρ1 ρ2 : Rho} {is : List Nat} (h1 : a ρ x = .ok ρ1) (h2 : b ρ1 = .nx ρ2) : forD a (killS is b) (x :: xs) ρ = forD a (killS is b) xs (is.foldl (fun ρ i => ρ.set i none) ρ2) := by
  rw [forD]
  rw [h1]
  simp only [x_killS, h2]
  rfl
theorem read_rows {ks : Ks} (z : PD) (hk : ks.length ≤ 1000) : ∀ (l : List (Nat × List Str)) (s : TSt), TOK s → (∀ q ∈ l, RW q.2) →
    forD rtA (killS [5, 6] rtB) (l.map rI) (rtS (kD ks) z (psT s.1) (s.2.1.map jnI) (s.2.2.map spI) none none) = match readRows ks l s with
    | .inl s' => .nx (rtS (kD ks) z (psT s'.1) (s'.2.1.map jnI) (s'.2.2.map spI) none none)
    | .inr e => .exc e
  | [], s, _, _ => rfl
  | q :: l, s, h, hw => by
    have h1 := take_row (ks := ks) z q.1 hk h (hw q List.mem_cons_self)
    have ea : rtA (rtS (kD ks) z (psT s.1) (s.2.1.map jnI) (s.2.2.map spI) none none) (rI q) = .ok (rtS (kD ks) z (psT s.1) (s.2.1.map jnI) (s.2.2.map spI) (some (.d (.int q.1))) (some (.d (rowD q.2)))) := rfl
    unfold readRows
    rw [List.map_cons]
    cases e : takeRow ks q.1 q.2 s with
    | inr c =>
      rw [e] at h1
      exact forD_stop ea h1
    | inl s' =>
      rw [e] at h1
      rw [forD_go ea h1]
      exact read_rows z hk l s' (h.row (hw q List.mem_cons_self) e) fun r hr => hw r (List.mem_cons_of_mem _ hr)
theorem call1O {f : List PD → FR} {ga : Rho → R PD} {ρ : Rho} {a : PD} {l : List PD} (ha : ga ρ = .ok a) (h : f [a] = .rt (.o (.list l))) : eCall 1 f (aCons ga aNil) ρ = .ok (.list l) := by
  simp only [x_eCall, x_aCons, x_aNil, ha, x_bind_ok]
  show (if 1 = 1 then (f [a]).toE else R.bad) = _
  rw [if_pos rfl, h]
  rfl
end
end K05
namespace K05
open PySem L2 DL
def szRow (e : Str × Int) : List Str := [wSize, e.1, tS e.2]
def ptRows (p : Pt) : List (List Str) := [wPart, p.1] :: p.2.map szRow
def jnRow (j : Jn) : List Str := [wJoin, j.1, tS j.2.1, tS j.2.2]
def spRow (s : Sp) : List Str := [wStep, s.1, tS s.2]
def rowsOf (s : TSt) : List (List Str) := s.1.flatMap ptRows ++ s.2.1.map jnRow ++ s.2.2.map spRow
structure Gd (ks : Ks) (s : TSt) : Prop where
  t : TOK s
  pk : ∀ p ∈ s.1, isW p.1 = true ∧ Wc p.1 ∧ p.1 ∈ ks.map (·.1)
  ps : ∀ p ∈ s.1, (p.2.map (·.1)).Nodup ∧ ∀ e ∈ p.2, isW e.1 = true ∧ Wc e.1 ∧ e.2.natAbs < 10 ^ 30
  jn : s.2.1.Nodup
  jg : ∀ j ∈ s.2.1, isW j.1 = true ∧ Wc j.1 ∧ (0 ≤ j.2.1 ∧ j.2.1 < (s.1.length : Int)) ∧ (0 ≤ j.2.2 ∧ j.2.2 < (s.1.length : Int)) ∧ j.2.1 ≠ j.2.2
  sg : ∀ t ∈ s.2.2, isW t.1 = true ∧ Wc t.1 ∧ 0 ≤ t.2 ∧ t.2 < (s.1.length : Int)
theorem w_ps : wPart ≠ wSize := by decide +kernel
theorem w_pj : wPart ≠ wJoin := by decide +kernel
theorem w_pt : wPart ≠ wStep := by decide +kernel
theorem w_sj : wSize ≠ wJoin := by decide +kernel
theorem w_st : wSize ≠ wStep := by decide +kernel
theorem w_jt : wJoin ≠ wStep := by decide +kernel
theorem nn_of {p : Prop} (h : p) : ¬ ¬ p := fun z => z h
theorem hd_ne {x y : Str} {r : List Str} (h : y ≠ x) : ¬ (x :: r).head? = some y := fun q => h (Option.some.inj q).symm
theorem hd_eq {x : Str} {r : List Str} : (x :: r).head? = some x := rfl
theorem row_part (ks : Ks) (a : Int) (r : List Str) (s : TSt) : takeRow ks a (wPart :: r) s = (match takePart ks a (wPart :: r) s.1 with | .inl p => .inl (p, s.2) | .inr e => .inr e) := by
  unfold takeRow
  rw [if_pos hd_eq]
  all_goals rfl
theorem row_size (ks : Ks) (a : Int) (r : List Str) (s : TSt) : takeRow ks a (wSize :: r) s = (match takeSize a (wSize :: r) s.1 with | .inl p => .inl (p, s.2) | .inr e => .inr e) := by
  unfold takeRow
  rw [if_neg (hd_ne w_ps), if_pos hd_eq]
  all_goals rfl
theorem row_join (ks : Ks) (a : Int) (r : List Str) (s : TSt) : takeRow ks a (wJoin :: r) s = (match takeJoin a (wJoin :: r) s.1.length s.2.1 with | .inl j => .inl (s.1, j, s.2.2) | .inr e => .inr e) := by
  unfold takeRow
  rw [if_neg (hd_ne w_pj), if_neg (hd_ne w_sj), if_pos hd_eq]
  all_goals rfl
theorem row_step (ks : Ks) (a : Int) (r : List Str) (s : TSt) : takeRow ks a (wStep :: r) s = (match takeStep a (wStep :: r) s.1.length s.2.2 with | .inl t => .inl (s.1, s.2.1, t) | .inr e => .inr e) := by
  unfold takeRow
  rw [if_neg (hd_ne w_pt), if_neg (hd_ne w_st), if_neg (hd_ne w_jt), if_pos hd_eq]
  all_goals rfl
theorem read_app (ks : Ks) : ∀ (l m : List (Nat × List Str)) (s : TSt), readRows ks (l ++ m) s = match readRows ks l s with
    | .inl s' => readRows ks m s'
    | .inr e => .inr e
  | [], m, s => rfl
  | q :: l, m, s => by
    rw [List.cons_append]
    show (match takeRow ks q.1 q.2 s with | .inl s' => readRows ks (l ++ m) s' | .inr e => .inr e) = match (match takeRow ks q.1 q.2 s with | .inl s' => readRows ks l s' | .inr e => .inr e : TSt ⊕ Ec) with | .inl s' => readRows ks m s' | .inr e => .inr e
    cases e : takeRow ks q.1 q.2 s with
    | inl s' => exact read_app ks l m s'
    | inr c => rfl
theorem read_sizes (ks : Ks) (pre : List Pt) (js : List Jn) (st : List Sp) : ∀ (es : List (Str × Int)) (p : Pt) (l : List (Nat × List Str)), l.map (·.2) = es.map szRow → ((p.2 ++ es).map (·.1)).Nodup → p.2.length + es.length ≤ 4 → (∀ e ∈ es, isW e.1 = true ∧ Wc e.1 ∧ e.2.natAbs < 10 ^ 30) →
    readRows ks l (pre ++ [p], js, st) = .inl (pre ++ [(p.1, p.2 ++ es)], js, st)
  | [], p, l, hl, _, _, _ => by
    rw [List.map_nil, List.map_eq_nil_iff] at hl
    subst hl
    rw [List.append_nil]
    rfl
  | e :: es, p, [], hl, _, _, _ => by cases hl
  | e :: es, p, q :: l, hl, hn, h4, he => by
    rw [List.map_cons, List.map_cons] at hl
    injection hl with h1 h2
    have hq : q = (q.1, szRow e) := by rw [← h1]
    rw [List.length_cons] at h4
    obtain ⟨w1, w2, w3⟩ := he e List.mem_cons_self
    have hne : e.1 ∉ p.2.map (·.1) := by
      rw [List.map_append, List.map_cons, List.nodup_append] at hn
      exact fun z => hn.2.2 _ z _ List.mem_cons_self rfl
    have t1 : takeRow ks q.1 q.2 (pre ++ [p], js, st) = .inl (pre ++ [(p.1, p.2 ++ [e])], js, st) := by
      rw [hq]
      show takeRow ks q.1 (wSize :: [e.1, tS e.2]) _ = _
      rw [row_size]
      unfold takeSize
      simp only [w1, num_tS _ w3, List.getLast?_concat, if_neg hne, if_neg (show ¬ p.2.length = 4 by omega), List.dropLast_concat]
    unfold readRows
    rw [t1]
    have ih := read_sizes ks pre js st es (p.1, p.2 ++ [e]) l h2 (by rw [List.append_assoc]; exact hn) (by simp; omega) fun x hx => he x (List.mem_cons_of_mem _ hx)
    rw [List.append_assoc] at ih
    exact ih
theorem read_parts (ks : Ks) (js : List Jn) (st : List Sp) : ∀ (ps pre : List Pt) (l : List (Nat × List Str)), l.map (·.2) = ps.flatMap ptRows → pre.length + ps.length ≤ 8 → (∀ p ∈ ps, isW p.1 = true ∧ Wc p.1 ∧ p.1 ∈ ks.map (·.1)) →
    (∀ p ∈ ps, p.2.length ≤ 4 ∧ (p.2.map (·.1)).Nodup ∧ ∀ e ∈ p.2, isW e.1 = true ∧ Wc e.1 ∧ e.2.natAbs < 10 ^ 30) → readRows ks l (pre, js, st) = .inl (pre ++ ps, js, st)
  | [], pre, l, hl, _, _, _ => by
    rw [List.flatMap_nil, List.map_eq_nil_iff] at hl
    subst hl
    rw [List.append_nil]
    rfl
  | p :: ps, pre, [], hl, _, _, _ => by cases hl
  | p :: ps, pre, q :: l, hl, h8, hk, hs => by
    rw [List.map_cons, List.flatMap_cons] at hl
    unfold ptRows at hl
    rw [List.cons_append] at hl
    injection hl with h1 h2
    obtain ⟨l1, l2, rfl, g1, g2⟩ := List.map_eq_append_iff.mp h2
    rw [List.length_cons] at h8
    obtain ⟨k1, k2, k3⟩ := hk p List.mem_cons_self
    obtain ⟨s1, s2, s3⟩ := hs p List.mem_cons_self
    have t1 : takeRow ks q.1 q.2 (pre, js, st) = .inl (pre ++ [(p.1, [])], js, st) := by
      rw [h1]
      show takeRow ks q.1 (wPart :: [p.1]) _ = _
      rw [row_part]
      unfold takePart
      simp only [if_pos k1, if_pos k3, if_neg (show ¬ pre.length = 8 by omega)]
    unfold readRows
    rw [t1]
    show readRows ks (l1 ++ l2) (pre ++ [(p.1, [])], js, st) = _
    rw [read_app, read_sizes ks pre js st p.2 (p.1, []) l1 g1 s2 (by simpa using s1) s3]
    have ih := read_parts ks js st ps (pre ++ [p]) l2 g2 (by simp; omega) (fun x hx => hk x (List.mem_cons_of_mem _ hx)) fun x hx => hs x (List.mem_cons_of_mem _ hx)
    rw [List.append_assoc] at ih
    exact ih
theorem nd_lt (n : Int) (i : Int) (h : 0 ≤ i) (h2 : i < n) (hn : n ≤ 8) : i.natAbs < 10 ^ 30 := by
  have : i.natAbs < 8 := by omega
  exact Nat.lt_trans this (by decide)
theorem read_joins (ks : Ks) (ps : List Pt) (st : List Sp) (h8 : ps.length ≤ 8) : ∀ (js pre : List Jn) (l : List (Nat × List Str)), l.map (·.2) = js.map jnRow → pre.length + js.length ≤ 16 → (pre ++ js).Nodup →
    (∀ j ∈ js, isW j.1 = true ∧ Wc j.1 ∧ (0 ≤ j.2.1 ∧ j.2.1 < (ps.length : Int)) ∧ (0 ≤ j.2.2 ∧ j.2.2 < (ps.length : Int)) ∧ j.2.1 ≠ j.2.2) → readRows ks l (ps, pre, st) = .inl (ps, pre ++ js, st)
  | [], pre, l, hl, _, _, _ => by
    rw [List.map_nil, List.map_eq_nil_iff] at hl
    subst hl
    rw [List.append_nil]
    rfl
  | j :: js, pre, [], hl, _, _, _ => by cases hl
  | j :: js, pre, q :: l, hl, h16, hn, hj => by
    rw [List.map_cons, List.map_cons] at hl
    injection hl with h1 h2
    rw [List.length_cons] at h16
    obtain ⟨j1, j2, j3, j4, j5⟩ := hj j List.mem_cons_self
    have hne : (j.1, j.2.1, j.2.2) ∉ pre := by
      rw [List.nodup_append] at hn
      exact fun z => hn.2.2 _ z _ List.mem_cons_self rfl
    have t1 : takeRow ks q.1 q.2 (ps, pre, st) = .inl (ps, pre ++ [j], st) := by
      rw [h1]
      show takeRow ks q.1 (wJoin :: [j.1, tS j.2.1, tS j.2.2]) _ = _
      rw [row_join]
      unfold takeJoin
      simp only [j1, num_tS _ (nd_lt ps.length _ j3.1 j3.2 (by omega)), num_tS _ (nd_lt ps.length _ j4.1 j4.2 (by omega)), if_neg j5, if_neg (nn_of j3), if_neg (nn_of j4), if_neg hne, if_neg (show ¬ pre.length = 16 by omega)]
    unfold readRows
    rw [t1]
    have ih := read_joins ks ps st h8 js (pre ++ [j]) l h2 (by simp; omega) (by rw [List.append_assoc]; exact hn) fun x hx => hj x (List.mem_cons_of_mem _ hx)
    rw [List.append_assoc] at ih
    exact ih
theorem read_steps (ks : Ks) (ps : List Pt) (js : List Jn) (h8 : ps.length ≤ 8) : ∀ (st pre : List Sp) (l : List (Nat × List Str)), l.map (·.2) = st.map spRow → pre.length + st.length ≤ 8 →
    (∀ t ∈ st, isW t.1 = true ∧ Wc t.1 ∧ 0 ≤ t.2 ∧ t.2 < (ps.length : Int)) → readRows ks l (ps, js, pre) = .inl (ps, js, pre ++ st)
  | [], pre, l, hl, _, _ => by
    rw [List.map_nil, List.map_eq_nil_iff] at hl
    subst hl
    rw [List.append_nil]
    rfl
  | j :: js', pre, [], hl, _, _ => by cases hl
  | t :: st, pre, q :: l, hl, h16, ht => by
    rw [List.map_cons, List.map_cons] at hl
    injection hl with h1 h2
    rw [List.length_cons] at h16
    obtain ⟨t1, t2, t3, t4⟩ := ht t List.mem_cons_self
    have t1 : takeRow ks q.1 q.2 (ps, js, pre) = .inl (ps, js, pre ++ [t]) := by
      rw [h1]
      show takeRow ks q.1 (wStep :: [t.1, tS t.2]) _ = _
      rw [row_step]
      unfold takeStep
      simp only [t1, num_tS _ (nd_lt ps.length _ t3 t4 (by omega)), if_neg (nn_of (And.intro t3 t4)), if_neg (show ¬ pre.length = 8 by omega)]
    unfold readRows
    rw [t1]
    have ih := read_steps ks ps js h8 st (pre ++ [t]) l h2 (by simp; omega) fun x hx => ht x (List.mem_cons_of_mem _ hx)
    rw [List.append_assoc] at ih
    exact ih
theorem read_good {ks : Ks} {s : TSt} (h : Gd ks s) {l : List (Nat × List Str)} (hl : l.map (·.2) = rowsOf s) : readRows ks l ([], [], []) = .inl s := by
  obtain ⟨ps, js, st⟩ := s
  unfold rowsOf at hl
  obtain ⟨l1, l2, rfl, g1, g2⟩ := List.map_eq_append_iff.mp hl
  obtain ⟨l3, l4, rfl, g3, g4⟩ := List.map_eq_append_iff.mp g1
  have a1 := read_parts ks [] [] ps [] l3 g3 (by simpa using h.t.p) h.pk fun p hp => ⟨h.t.s p hp, h.ps p hp⟩
  have a2 := read_joins ks ps [] h.t.p js [] l4 g4 (by simpa using h.t.j) (by simpa using h.jn) h.jg
  have a3 := read_steps ks ps js h.t.p st [] l2 g2 (by simpa using h.t.t) h.sg
  rw [List.nil_append] at a1 a2 a3
  rw [read_app, read_app, a1]
  show (match (match Sum.inl (ps, [], []) with | .inl s' => readRows ks l4 s' | .inr e => .inr e : TSt ⊕ Ec) with | .inl s' => readRows ks l2 s' | .inr e => .inr e) = _
  show (match readRows ks l4 (ps, [], []) with | .inl s' => readRows ks l2 s' | .inr e => .inr e) = _
  rw [a2]
  exact a3
end K05
namespace K05
open PySem L2 DL
noncomputable section
section
variable {g gk : Rho → R PD} {ρ : Rho} {m a b : Int}
theorem dv (h : g ρ = .ok (.int m)) (ha : 0 < a) (ha2 : a < 1073741824) : eOp divD g (eC (.int a)) ρ = .ok (.int (m / a)) := (op_ok h rfl).trans (x_div m a ha ha2)
theorem md (h : g ρ = .ok (.int m)) (ha : 0 < a) : eOp modD g (eC (.int a)) ρ = .ok (.int (m % a)) := (op_ok h rfl).trans (x_mod m a ha)
theorem dm (h : g ρ = .ok (.int m)) (ha : 0 < a) (ha2 : a < 1073741824) (hb : 0 < b) : eOp modD (eOp divD g (eC (.int a))) (eC (.int b)) ρ = .ok (.int (m / a % b)) := md (dv h ha ha2) hb
theorem item_at {γ : Type} (l : List γ) (f : γ → PD) (hl : 1 ≤ l.length) (h0 : gk ρ = .ok (.list (l.map f))) (h : g ρ = .ok (.int m)) : ∃ x ∈ l, eOp ixD gk (eOp modD g (eCB lenD (aCons gk aNil))) ρ = .ok (f x) := by
  have hlen : eCB lenD (aCons gk aNil) ρ = .ok (.int (l.length : Nat)) := by rw [cb1 h0, x_len_l, List.length_map]
  have hp : (0 : Int) < (l.length : Int) := by omega
  have em : eOp modD g (eCB lenD (aCons gk aNil)) ρ = .ok (.int (m % (l.length : Int))) := (op_ok h hlen).trans (x_mod m _ hp)
  obtain ⟨x, hx, ex, ei⟩ := ix_list l f (m % (l.length : Int)) (Int.emod_nonneg _ (by omega)) (Int.emod_lt_of_pos _ hp)
  exact ⟨x, by rw [ex]; exact List.getElem_mem _, (op_ok h0 em).trans ei⟩
end
theorem ac_ok {g : Rho → R PD} {gr : Rho → R (List PD)} {ρ : Rho} {x : PD} {l : List PD} (h : g ρ = .ok x) (hr : gr ρ = .ok l) : aCons g gr ρ = .ok (x :: l) := by
  rw [x_aCons, h, x_bind_ok, hr, x_bind_ok]
theorem lsN {g : Rho → R (List PD)} {ρ : Rho} {l : List PD} (h : g ρ = .ok l) (hl : l.length ≤ 100) : eFz (oLst g) ρ = .ok (.list l) := by
  refine fz_l ?_
  rw [x_oLst, h, x_bind_ok]
  exact if_pos (sz (by omega))
theorem lsO {g : Rho → R (List PD)} {ρ : Rho} {l : List PD} (h : g ρ = .ok l) (hl : l.length ≤ 100) : oLst g ρ = .ok (.list l) := by
  rw [x_oLst, h, x_bind_ok]
  exact if_pos (sz (by omega))
def szK (e : Str × Int) : PD × PD := (.str e.1, .int e.2)
def lpI (p : Pt) : PD := .tuple [.str p.1, encD (p.2.map szK)]
theorem valD_sz (w : Str) : ∀ es : List (Str × Int), (valD (es.map szK) (.inr w)).isSome = decide (w ∈ es.map (·.1))
  | [] => rfl
  | e :: es => by
    rw [List.map_cons, List.map_cons]
    show (if keyOf (.str e.1) = some (.inr w) then some (PyData.int e.2) else valD (es.map szK) (.inr w)).isSome = _
    by_cases c : e.1 = w
    · rw [if_pos (by rw [c]; rfl), decide_eq_true (by rw [c]; exact List.mem_cons_self)]; rfl
    · rw [if_neg (fun z => c (by injection z with z; injection z with z)), valD_sz w es]
      by_cases d : w ∈ es.map (·.1)
      · rw [decide_eq_true d, decide_eq_true (List.mem_cons_of_mem _ d)]
      · rw [decide_eq_false d, decide_eq_false (fun z => (List.mem_cons.mp z).elim (fun q => c q.symm) d)]
structure GN (x : Str) : Prop where
  w : isW x = true
  c : Wc x
theorem gn_nm (s : Int) (k : Nat) (h : 0 ≤ s) : GN (nm s k) := ⟨nm_word s k h, nm_wc s k h⟩
structure GE (es : List (Str × Int)) : Prop where
  nd : (es.map (·.1)).Nodup
  g : ∀ e ∈ es, GN e.1 ∧ e.2.natAbs < 10 ^ 30
theorem keyOf_sz {e : Str × Int} {w : Str} : keyOf (szK e).1 = some (.inr w) ↔ e.1 = w := ⟨fun z => by injection z with z; injection z with z, fun z => by rw [← z]; rfl⟩
theorem GE.put {es : List (Str × Int)} (h : GE es) (w : Str) (n : Int) (gw : GN w) (hn : n.natAbs < 10 ^ 30) : ∃ es' : List (Str × Int), putD (es.map szK) (.inr w) (.int n) = es'.map szK ∧ es'.length ≤ es.length + 1 ∧ GE es' := by
  unfold putD
  rw [valD_sz]
  by_cases c : w ∈ es.map (·.1)
  · rw [if_pos (decide_eq_true c)]
    refine ⟨es.map fun e => if e.1 = w then (e.1, n) else e, ?_, by rw [List.length_map]; omega, ?_, ?_⟩
    · rw [List.map_map, List.map_map]
      refine List.map_congr_left fun e _ => ?_
      show (if keyOf (szK e).1 = some (.inr w) then ((szK e).1, PyData.int n) else szK e) = szK (if e.1 = w then (e.1, n) else e)
      by_cases d : e.1 = w
      · rw [if_pos (keyOf_sz.mpr d), if_pos d]; rfl
      · rw [if_neg (fun z => d (keyOf_sz.mp z)), if_neg d]
    · rw [List.map_map]
      rw [show ((fun e : Str × Int => e.1) ∘ fun e : Str × Int => if e.1 = w then (e.1, n) else e) = fun e => e.1 from funext fun e => by
        show (if e.1 = w then (e.1, n) else e).1 = e.1
        split <;> rfl]
      exact h.nd
    · intro e he
      obtain ⟨q, hq, rfl⟩ := List.mem_map.mp he
      obtain ⟨g1, g2⟩ := h.g q hq
      split
      · exact ⟨g1, hn⟩
      · exact ⟨g1, g2⟩
  · rw [if_neg (fun z => c (of_decide_eq_true z))]
    refine ⟨es ++ [(w, n)], by rw [List.map_append]; rfl, by simp, ?_, ?_⟩
    · rw [List.map_append, List.nodup_append]
      refine ⟨h.nd, by simp, fun a ha b hb => ?_⟩
      rw [List.map_cons, List.map_nil, List.mem_singleton] at hb
      rw [hb]
      exact fun z => c ((show a = w from z) ▸ ha)
    · intro e he
      rcases List.mem_append.mp he with z | z
      · exact h.g e z
      · rw [List.mem_singleton.mp z]
        exact ⟨gw, hn⟩
theorem frz_d {ρ : Rho} {i : Nat} {kvs : List (PD × PD)} (h : ρ[i]? = some (some (.t (.own (.dict kvs))))) : frz1 i ρ = ρ.set i (some (.d (encD kvs))) := by
  unfold frz1
  rw [h]
  rfl
def nbQ (x : Sl) : Prop := ∃ n : Int, n.natAbs < 10 ^ 30 ∧ x = .d (.int n)
theorem big_mod (m : Int) : (m % 10 ^ 30).natAbs < 10 ^ 30 := by
  have a := Int.emod_nonneg m (show (10 ^ 30 : Int) ≠ 0 by decide)
  have b := Int.emod_lt_of_pos m (show (0 : Int) < 10 ^ 30 by decide)
  omega
theorem law_number (m : Int) : ∃ n : Int, n.natAbs < 10 ^ 30 ∧ d_law_number [.int m] = .rt (.d (.int n)) := by
  obtain ⟨x, ex, n, hn, rfl⟩ : ∃ x, d_law_number [.int m] = .rt x ∧ nbQ x := by
    refine hs_run (n := 2) (s := S_law_number) (ds := [.int m]) (Q := nbQ) ?_
    unfold S_law_number
    refine hs_seq (hs_set (x := .int (m / 6 % 7 - 3)) ?_ ?_)
    · rw [op_ok (dm rfl (by decide) (by decide) (by decide)) rfl, x_sub_i]
    simp -implicitDefEqProofs only [startD, List.length_cons, List.length_nil, List.map_cons, List.map_nil, List.cons_append, List.nil_append, Nat.reduceAdd, Nat.reduceSub, List.replicate, List.set_cons_zero, List.set_cons_succ, List.foldl_cons, List.foldl_nil, x_killD_n, x_killD_c, x_slOf_f, x_slOf_o, x_slOf_t, x_slOf_k]
    have pw : ∀ ρ : Rho, eOp powD (eC (.int 10)) (eC (.int 30)) ρ = .ok (.int (10 ^ 30)) := fun _ => rfl
    refine hs_cut (P := fun ρ => ∃ n : Int, n.natAbs < 10 ^ 30 ∧ ρ = [some (.d (.int m)), some (.d (.int n))]) ?_ ?_
    · refine hs_ifX (xEqI (md rfl (by decide)) rfl) ?_ (hs_next ⟨_, by omega, rfl⟩)
      refine hs_set (x := .int (m * 48271 % 10 ^ 30)) ?_ ⟨_, big_mod _, rfl⟩
      rw [op_ok ((op_ok rfl rfl).trans (x_mul_r m 48271 (by decide) (by decide))) (pw _)]
      exact x_mod _ _ (by decide)
    rintro _ ⟨n, hn, rfl⟩
    refine hs_cut (P := fun ρ => ∃ n : Int, n.natAbs < 10 ^ 30 ∧ ρ = [some (.d (.int m)), some (.d (.int n))]) ?_ ?_
    · refine hs_ifX (xEqI (md rfl (by decide)) rfl) ?_ (hs_next ⟨_, hn, rfl⟩)
      refine hs_set (x := .int (-(m * 69621 % 10 ^ 30))) ?_ ⟨_, by rw [Int.natAbs_neg]; exact big_mod _, rfl⟩
      have e : eOp modD (eOp mulD (rVar 0) (eC (.int 69621))) (eOp powD (eC (.int 10)) (eC (.int 30))) [some (.d (.int m)), some (.d (.int n))] = .ok (.int (m * 69621 % 10 ^ 30)) := by
        rw [op_ok ((op_ok rfl rfl).trans (x_mul_r m 69621 (by decide) (by decide))) (pw _)]
        exact x_mod _ _ (by decide)
      show (eOp modD (eOp mulD (rVar 0) (eC (.int 69621))) (eOp powD (eC (.int 10)) (eC (.int 30))) [some (.d (.int m)), some (.d (.int n))]).bind negD = _
      rw [e]
      rfl
    rintro _ ⟨n, hn, rfl⟩
    exact hs_retV rfl ⟨n, hn, rfl⟩
  exact ⟨n, hn, ex⟩
structure PO (ks : Ks) (ps : List Pt) : Prop where
  k : ∀ p ∈ ps, p.1 ∈ ks.map (·.1)
  z : ∀ p ∈ ps, p.2.length ≤ 4 ∧ GE p.2
def lpQ (ks : Ks) (n : Nat) (x : Sl) : Prop := ∃ ps : List Pt, PO ks ps ∧ ps.length = n ∧ x = .o (.list (ps.map lpI))
theorem cell_at (cells : List Int) (i : Nat) (hi : i < cells.length) : ∃ c : Int, ixD (.list (cells.map PyData.int)) (.int (i : Nat)) = .ok (.int c) := by
  obtain ⟨x, h, ex, e⟩ := ix_list cells PyData.int (i : Nat) (by omega) (by omega)
  exact ⟨x, e⟩
theorem law_parts (ks : Ks) (hk : 1 ≤ ks.length) (cells : List Int) (hl : cells.length ≤ 8) (s : Int) (h0 : 0 ≤ s) (h1 : s < 2 ^ 62) : ∃ ps : List Pt, d_law_parts [kD ks, .list (cells.map PyData.int), .int s] = .rt (.o (.list (ps.map lpI))) ∧ PO ks ps ∧ ps.length = cells.length := by
  obtain ⟨x, ex, ps, h1, h2, rfl⟩ : ∃ x, d_law_parts [kD ks, .list (cells.map PyData.int), .int s] = .rt x ∧ lpQ ks cells.length x := by
    refine hs_run (n := 8) (s := S_law_parts) (ds := [kD ks, .list (cells.map PyData.int), .int s]) (Q := lpQ ks cells.length) ?_
    unfold S_law_parts
    refine hs_seq (hs_setO (x := .list []) (by simp -implicitDefEqProofs only [s0, s1, s2, s3, s4, s5, s6, s7, s8, s9, x_max2, x_int_b, x_int_i, x_tuple_l, startD, List.length_cons, List.length_nil, List.map_cons, List.map_nil, List.cons_append, List.nil_append, Nat.reduceAdd, Nat.reduceSub, List.replicate, List.set_cons_zero, List.set_cons_succ, x_wipe_cons, x_wipe_nil, x_eOp, x_eC, x_eCB, x_aCons, x_aNil, x_bind_ok, x_add_i, x_len_s, x_len_l, x_len_t, x_bOf, x_eTup, x_eFz, x_oLst, x_eCall, x_aName, x_aTup, x_asCons, x_asNil, x_mod, x_div, x_bAnd, x_bOr, x_bNot, x_asB, x_sub_i, x_neg_i, x_toE_d, x_toE_o, x_notDict, if_true, if_false, reduceIte, Int.reduceLT, Int.reduceAdd, Int.reduceSub, Int.reduceMul, Int.reduceNeg, Int.reducePow, rVar, eVar, hVar, List.getElem?_cons_zero, List.getElem?_cons_succ]) ?_)
    simp -implicitDefEqProofs only [startD, List.length_cons, List.length_nil, List.map_cons, List.map_nil, List.cons_append, List.nil_append, Nat.reduceAdd, Nat.reduceSub, List.replicate, List.set_cons_zero, List.set_cons_succ, List.foldl_cons, List.foldl_nil, x_killD_n, x_killD_c, x_slOf_f, x_slOf_o, x_slOf_t, x_slOf_k]
    refine hs_seq (hs_pre ?_)
    simp -implicitDefEqProofs only [startD, List.length_cons, List.length_nil, List.map_cons, List.map_nil, List.cons_append, List.nil_append, Nat.reduceAdd, Nat.reduceSub, List.replicate, List.set_cons_zero, List.set_cons_succ, List.foldl_cons, List.foldl_nil, x_killD_n, x_killD_c, x_slOf_f, x_slOf_o, x_slOf_t, x_slOf_k]
    refine hs_rng cells.length (rng_c (n := cells.length) ?_ (by omega)) (fun i ρ => ∃ ps : List Pt, PO ks ps ∧ ps.length = i ∧ ρ = [some (.d (kD ks)), some (.d (.list (cells.map PyData.int))), some (.d (.int s)), some (.o (.list (ps.map lpI))), none, none, none, none]) ⟨[], ⟨by simp, by simp⟩, rfl, rfl⟩ ?_ ?_
    · rw [cb1 (a := .list (cells.map PyData.int)) rfl, x_len_l, List.length_map]
    · rintro i _ hi ⟨ps, po, pl, rfl⟩
      refine ⟨_, rfl, ?_⟩
      simp -implicitDefEqProofs only [startD, List.length_cons, List.length_nil, List.map_cons, List.map_nil, List.cons_append, List.nil_append, Nat.reduceAdd, Nat.reduceSub, List.replicate, List.set_cons_zero, List.set_cons_succ, List.foldl_cons, List.foldl_nil, x_killD_n, x_killD_c, x_slOf_f, x_slOf_o, x_slOf_t, x_slOf_k]
      obtain ⟨c, ec⟩ := cell_at cells i hi
      generalize hm : (c + (i : Int) * (i : Int) + 1) * 1414141414141414141 % 2305843009213693951 = m
      have m0 : 0 ≤ m := hm ▸ mix_nn c (i : Int) 1414141414141414141
      refine hs_seq (hs_set (x := .int m) (call3 (b := .int (i : Nat)) ((op_ok rfl rfl).trans ec) rfl rfl ((law_mix c (i : Nat) 1414141414141414141 (by omega) (by omega) (by decide) (by decide)).trans (by rw [hm]))) ?_)
      simp -implicitDefEqProofs only [startD, List.length_cons, List.length_nil, List.map_cons, List.map_nil, List.cons_append, List.nil_append, Nat.reduceAdd, Nat.reduceSub, List.replicate, List.set_cons_zero, List.set_cons_succ, List.foldl_cons, List.foldl_nil, x_killD_n, x_killD_c, x_slOf_f, x_slOf_o, x_slOf_t, x_slOf_k]
      clear hm
      refine hs_seq (hs_setO (x := .dict []) rfl ?_)
      simp -implicitDefEqProofs only [startD, List.length_cons, List.length_nil, List.map_cons, List.map_nil, List.cons_append, List.nil_append, Nat.reduceAdd, Nat.reduceSub, List.replicate, List.set_cons_zero, List.set_cons_succ, List.foldl_cons, List.foldl_nil, x_killD_n, x_killD_c, x_slOf_f, x_slOf_o, x_slOf_t, x_slOf_k]
      refine hs_seq (hs_pre ?_)
      simp -implicitDefEqProofs only [startD, List.length_cons, List.length_nil, List.map_cons, List.map_nil, List.cons_append, List.nil_append, Nat.reduceAdd, Nat.reduceSub, List.replicate, List.set_cons_zero, List.set_cons_succ, List.foldl_cons, List.foldl_nil, x_killD_n, x_killD_c, x_slOf_f, x_slOf_o, x_slOf_t, x_slOf_k]
      have e5 : m % 5 = ((m % 5).toNat : Nat) := by omega
      refine hs_rng (m % 5).toNat (rng_c (n := (m % 5).toNat) ?_ (by omega)) (fun t ρ => ∃ es : List (Str × Int), GE es ∧ es.length ≤ t ∧ ρ = [some (.d (kD ks)), some (.d (.list (cells.map PyData.int))), some (.d (.int s)), some (.o (.list (ps.map lpI))), some (.d (.int (i : Nat))), some (.d (.int m)), some (.o (.dict (es.map szK))), none]) ⟨[], ⟨by simp, by simp⟩, Nat.le_refl _, rfl⟩ ?_ ?_
      · rw [← e5]
        exact md rfl (by decide)
      · rintro t _ ht ⟨es, ge, el, rfl⟩
        refine ⟨_, rfl, ?_⟩
        simp -implicitDefEqProofs only [startD, List.length_cons, List.length_nil, List.map_cons, List.map_nil, List.cons_append, List.nil_append, Nat.reduceAdd, Nat.reduceSub, List.replicate, List.set_cons_zero, List.set_cons_succ, List.foldl_cons, List.foldl_nil, x_killD_n, x_killD_c, x_slOf_f, x_slOf_o, x_slOf_t, x_slOf_k]
        generalize hρ : [some (Sl.d (kD ks)), some (.d (.list (cells.map PyData.int))), some (.d (.int s)), some (.o (.list (ps.map lpI))), some (.d (.int (i : Nat))), some (.d (.int m)), some (.o (.dict (es.map szK))), some (.d (.int (t : Nat)))] = ρ
        have r5 : rVar 5 ρ = .ok (.int m) := by rw [← hρ]; rfl
        have r2 : rVar 2 ρ = .ok (.int s) := by rw [← hρ]; rfl
        have r7 : rVar 7 ρ = .ok (.int (t : Nat)) := by rw [← hρ]; rfl
        have s6 : ρ[6]? = some (some (.o (.dict (es.map szK)))) := by rw [← hρ]; rfl
        obtain ⟨k, hk2, ek⟩ : ∃ k : Nat, k < 100 ∧ eOp addD (eC (.int 16)) (eOp modD (eOp addD (eOp divD (rVar 5) (eC (.int 5))) (eOp mulD (rVar 7) (eOp addD (eC (.int 1)) (eOp modD (eOp divD (rVar 5) (eC (.int 50))) (eC (.int 3)))))) (eC (.int 9))) ρ = .ok (.int (k : Nat)) := by
          have e1 : eOp mulD (rVar 7) (eOp addD (eC (.int 1)) (eOp modD (eOp divD (rVar 5) (eC (.int 50))) (eC (.int 3)))) ρ = .ok (.int ((t : Int) * (1 + m / 50 % 3))) := (op_ok r7 ((op_ok rfl (dm r5 (by decide) (by decide) (by decide))).trans (x_add_i _ _))).trans (x_mul_l _ _ (by omega) (by omega))
          have e2 := md ((op_ok (dv r5 (show (0 : Int) < 5 by decide) (by decide)) e1).trans (x_add_i _ _)) (show (0 : Int) < 9 by decide)
          obtain ⟨v, ev0, v0⟩ : ∃ v : Int, (m / 5 + (t : Int) * (1 + m / 50 % 3)) % 9 = v ∧ 0 ≤ v ∧ v < 9 := ⟨_, rfl, Int.emod_nonneg _ (by decide), Int.emod_lt_of_pos _ (by decide)⟩
          rw [ev0] at e2
          have ev : (16 : Int) + v = (((16 + v).toNat : Nat) : Int) := by omega
          refine ⟨(16 + v).toNat, by omega, ?_⟩
          rw [op_ok (a := .int 16) rfl e2, x_add_i]
          exact congrArg (fun z => R.ok (PyData.int z)) ev
        have s3 : (0 : Int) ≤ s / 3 ∧ s / 3 < 2 ^ 62 := by omega
        obtain ⟨n, hn, en⟩ := law_number (m / (11 + (t : Int)))
        have e2 : eCall 1 d_law_number (aCons (eOp divD (rVar 5) (eOp addD (eC (.int 11)) (rVar 7))) aNil) ρ = .ok (.int n) := call1 ((op_ok r5 ((op_ok (a := .int 11) rfl r7).trans (x_add_i _ _))).trans (x_div m _ (by omega) (by omega))) en
        have e1 := call2 ek (dv r2 (show (0 : Int) < 3 by decide) (by decide)) (law_name (s / 3) k s3.1 s3.2 hk2)
        obtain ⟨es', p1, p2, p3⟩ := ge.put (nm (s / 3) k) n (gn_nm _ _ s3.1) hn
        refine hs_dput s6 e1 e2 (szl (by rw [List.length_map]; omega)) ?_
        rw [p1, ← hρ]
        simp -implicitDefEqProofs only [startD, List.length_cons, List.length_nil, List.map_cons, List.map_nil, List.cons_append, List.nil_append, Nat.reduceAdd, Nat.reduceSub, List.replicate, List.set_cons_zero, List.set_cons_succ, List.foldl_cons, List.foldl_nil, x_killD_n, x_killD_c, x_slOf_f, x_slOf_o, x_slOf_t, x_slOf_k]
        exact ⟨es', p3, by omega, rfl⟩
      · rintro _ ⟨es, ge, el, rfl⟩
        refine hs_frz ?_
        simp only [List.foldl_cons, List.foldl_nil]
        rw [frz_d (kvs := es.map szK) rfl]
        simp -implicitDefEqProofs only [startD, List.length_cons, List.length_nil, List.map_cons, List.map_nil, List.cons_append, List.nil_append, Nat.reduceAdd, Nat.reduceSub, List.replicate, List.set_cons_zero, List.set_cons_succ, List.foldl_cons, List.foldl_nil, x_killD_n, x_killD_c, x_slOf_f, x_slOf_o, x_slOf_t, x_slOf_k]
        obtain ⟨q, hq, eq⟩ := item_at (g := eOp divD (rVar 5) (eC (.int 7))) (gk := rVar 0) (ρ := [some (Sl.d (kD ks)), some (.d (.list (cells.map PyData.int))), some (.d (.int s)), some (.o (.list (ps.map lpI))), some (.d (.int (i : Nat))), some (.d (.int m)), some (.d (encD (es.map szK))), none]) ks kI hk rfl (dv rfl (by decide) (by decide))
        refine hs_app (ds := ps.map lpI) (x := lpI (q.1, es)) rfl (tup2 ((op_ok eq (b := .int 0) rfl).trans (x_ix_t _ 0 _ (by decide) rfl)) rfl) (szl (by rw [List.length_map]; omega)) ?_
        simp -implicitDefEqProofs only [startD, List.length_cons, List.length_nil, List.map_cons, List.map_nil, List.cons_append, List.nil_append, Nat.reduceAdd, Nat.reduceSub, List.replicate, List.set_cons_zero, List.set_cons_succ, List.foldl_cons, List.foldl_nil, x_killD_n, x_killD_c, x_slOf_f, x_slOf_o, x_slOf_t, x_slOf_k]
        refine ⟨ps ++ [(q.1, es)], ⟨fun p hp => ?_, fun p hp => ?_⟩, by simp; omega, ?_⟩
        · rcases List.mem_append.mp hp with z | z
          · exact po.k p z
          · rw [List.mem_singleton.mp z]
            exact List.mem_map_of_mem hq
        · rcases List.mem_append.mp hp with z | z
          · exact po.z p z
          · rw [List.mem_singleton.mp z]
            exact ⟨by show es.length ≤ 4; omega, ge⟩
        · rw [List.map_append]
          rfl
    · rintro _ ⟨ps, po, pl, rfl⟩
      exact hs_retV rfl ⟨ps, po, pl, rfl⟩
  exact ⟨ps, ex, h1, h2⟩
structure JO (n : Nat) (js : List Jn) : Prop where
  nd : js.Nodup
  g : ∀ j ∈ js, GN j.1 ∧ (0 ≤ j.2.1 ∧ j.2.1 < (n : Int)) ∧ (0 ≤ j.2.2 ∧ j.2.2 < (n : Int)) ∧ j.2.1 ≠ j.2.2
theorem nin_jnI {js : List Jn} {y : Jn} (hj : ∀ j ∈ js, okS j.1) (hy : okS y.1) : ninD (jnI y) (.list (js.map jnI)) = .ok (.bool (!decide (y ∈ js))) := by
  have h := mem_jnI hj hy
  rw [x_in] at h
  rw [x_nin]
  cases e : inB (jnI y) (.list (js.map jnI)) with
  | ok c =>
    rw [e] at h
    injection h with h
    injection h with h
    rw [x_bind_ok, h]
  | exc c => rw [e] at h; cases h
  | bad => rw [e] at h; cases h
theorem turn_ne {n i t : Int} (h0 : 0 ≤ i) (h1 : i < n) (t0 : 0 ≤ t) (t1 : t < n - 1) : (i + 1 + t) % n ≠ i := by
  by_cases c : i + 1 + t < n
  · rw [Int.emod_eq_of_lt (by omega) c]
    omega
  · rw [← Int.sub_emod_right, Int.emod_eq_of_lt (by omega) (by omega)]
    omega
def jsQ (n l : Nat) (x : Sl) : Prop := ∃ js : List Jn, JO n js ∧ js.length ≤ l ∧ x = .o (.list (js.map jnI))
theorem law_joins (n : Nat) (hn : n ≤ 1000) (cells : List Int) (hl : cells.length ≤ 100) (s : Int) (h0 : 0 ≤ s) (h1 : s < 2 ^ 62) : ∃ js : List Jn, d_law_joins [.int (n : Nat), .list (cells.map PyData.int), .int s] = .rt (.o (.list (js.map jnI))) ∧ JO n js ∧ js.length ≤ cells.length := by
  obtain ⟨x, ex, js, h1, h2, rfl⟩ : ∃ x, d_law_joins [.int (n : Nat), .list (cells.map PyData.int), .int s] = .rt x ∧ jsQ n cells.length x := by
    refine hs_run (n := 9) (s := S_law_joins) (ds := [.int (n : Nat), .list (cells.map PyData.int), .int s]) (Q := jsQ n cells.length) ?_
    unfold S_law_joins
    refine hs_seq (hs_setO (x := .list []) (by simp -implicitDefEqProofs only [s0, s1, s2, s3, s4, s5, s6, s7, s8, s9, x_max2, x_int_b, x_int_i, x_tuple_l, startD, List.length_cons, List.length_nil, List.map_cons, List.map_nil, List.cons_append, List.nil_append, Nat.reduceAdd, Nat.reduceSub, List.replicate, List.set_cons_zero, List.set_cons_succ, x_wipe_cons, x_wipe_nil, x_eOp, x_eC, x_eCB, x_aCons, x_aNil, x_bind_ok, x_add_i, x_len_s, x_len_l, x_len_t, x_bOf, x_eTup, x_eFz, x_oLst, x_eCall, x_aName, x_aTup, x_asCons, x_asNil, x_mod, x_div, x_bAnd, x_bOr, x_bNot, x_asB, x_sub_i, x_neg_i, x_toE_d, x_toE_o, x_notDict, if_true, if_false, reduceIte, Int.reduceLT, Int.reduceAdd, Int.reduceSub, Int.reduceMul, Int.reduceNeg, Int.reducePow, rVar, eVar, hVar, List.getElem?_cons_zero, List.getElem?_cons_succ]) ?_)
    simp -implicitDefEqProofs only [startD, List.length_cons, List.length_nil, List.map_cons, List.map_nil, List.cons_append, List.nil_append, Nat.reduceAdd, Nat.reduceSub, List.replicate, List.set_cons_zero, List.set_cons_succ, List.foldl_cons, List.foldl_nil, x_killD_n, x_killD_c, x_slOf_f, x_slOf_o, x_slOf_t, x_slOf_k]
    refine hs_seq (hs_pre ?_)
    simp -implicitDefEqProofs only [startD, List.length_cons, List.length_nil, List.map_cons, List.map_nil, List.cons_append, List.nil_append, Nat.reduceAdd, Nat.reduceSub, List.replicate, List.set_cons_zero, List.set_cons_succ, List.foldl_cons, List.foldl_nil, x_killD_n, x_killD_c, x_slOf_f, x_slOf_o, x_slOf_t, x_slOf_k]
    refine hs_rng cells.length (rng_c (n := cells.length) ?_ (by omega)) (fun i ρ => ∃ js : List Jn, JO n js ∧ js.length ≤ i ∧ ρ = [some (.d (.int (n : Nat))), some (.d (.list (cells.map PyData.int))), some (.d (.int s)), some (.o (.list (js.map jnI))), none, none, none, none, none]) ⟨[], ⟨List.nodup_nil, by simp⟩, Nat.le_refl _, rfl⟩ ?_ ?_
    · rw [cb1 (a := .list (cells.map PyData.int)) rfl, x_len_l, List.length_map]
    · rintro i _ hi ⟨js, jo, jl, rfl⟩
      refine ⟨_, rfl, ?_⟩
      simp -implicitDefEqProofs only [startD, List.length_cons, List.length_nil, List.map_cons, List.map_nil, List.cons_append, List.nil_append, Nat.reduceAdd, Nat.reduceSub, List.replicate, List.set_cons_zero, List.set_cons_succ, List.foldl_cons, List.foldl_nil, x_killD_n, x_killD_c, x_slOf_f, x_slOf_o, x_slOf_t, x_slOf_k]
      obtain ⟨c, ec⟩ := cell_at cells i hi
      generalize hm : (c + (i : Int) * (i : Int) + 1) * 1515151515151515151 % 2305843009213693951 = m
      have m0 : 0 ≤ m := hm ▸ mix_nn c (i : Int) 1515151515151515151
      refine hs_seq (hs_set (x := .int m) (call3 (b := .int (i : Nat)) ((op_ok rfl rfl).trans ec) rfl rfl ((law_mix c (i : Nat) 1515151515151515151 (by omega) (by omega) (by decide) (by decide)).trans (by rw [hm]))) ?_)
      simp -implicitDefEqProofs only [startD, List.length_cons, List.length_nil, List.map_cons, List.map_nil, List.cons_append, List.nil_append, Nat.reduceAdd, Nat.reduceSub, List.replicate, List.set_cons_zero, List.set_cons_succ, List.foldl_cons, List.foldl_nil, x_killD_n, x_killD_c, x_slOf_f, x_slOf_o, x_slOf_t, x_slOf_k]
      clear hm
      generalize hM : (if (n : Int) > 1 then (n : Int) else 1) = M
      have hM0 : 0 < M := by rw [← hM]; split <;> omega
      generalize hL : (if (n : Int) - 1 > 1 then (n : Int) - 1 else 1) = L
      have hL0 : 0 < L := by rw [← hL]; split <;> omega
      have mx : ∀ ρ : Rho, rVar 0 ρ = .ok (.int (n : Nat)) → eCB max2D (aCons (eC (.int 1)) (aCons (rVar 0) aNil)) ρ = .ok (.int M) := fun ρ h => by
        show (aCons (eC (.int 1)) (aCons (rVar 0) aNil) ρ).bind max2D = _
        rw [ac_ok (x := .int 1) rfl (ac_ok h rfl), x_bind_ok, x_max2, hM]
      refine hs_seq (hs_set (x := .int (m % M)) ((op_ok rfl (mx _ rfl)).trans (x_mod _ _ hM0)) ?_)
      simp -implicitDefEqProofs only [startD, List.length_cons, List.length_nil, List.map_cons, List.map_nil, List.cons_append, List.nil_append, Nat.reduceAdd, Nat.reduceSub, List.replicate, List.set_cons_zero, List.set_cons_succ, List.foldl_cons, List.foldl_nil, x_killD_n, x_killD_c, x_slOf_f, x_slOf_o, x_slOf_t, x_slOf_k]
      refine hs_seq (hs_set (x := .int ((m % M + 1 + m / 9 % L) % M)) ?_ ?_)
      · have e1 : eCB max2D (aCons (eC (.int 1)) (aCons (eOp subD (rVar 0) (eC (.int 1))) aNil)) [some (Sl.d (.int (n : Nat))), some (.d (.list (cells.map PyData.int))), some (.d (.int s)), some (.o (.list (js.map jnI))), some (.d (.int (i : Nat))), some (.d (.int m)), some (.d (.int (m % M))), none, none] = .ok (.int L) := by
          show (aCons (eC (.int 1)) (aCons (eOp subD (rVar 0) (eC (.int 1))) aNil) _).bind max2D = _
          rw [ac_ok (x := .int 1) rfl (ac_ok (x := .int ((n : Int) - 1)) rfl rfl), x_bind_ok, x_max2, hL]
        have e2 := (op_ok (dv (g := rVar 5) rfl (show (0 : Int) < 9 by decide) (by decide)) e1).trans (x_mod (m / 9) _ hL0)
        have e3 := (op_ok (a := .int (m % M + 1)) (ga := eOp addD (rVar 6) (eC (.int 1))) rfl e2).trans (x_add_i _ _)
        exact (op_ok e3 (mx _ rfl)).trans (x_mod _ _ hM0)
      simp -implicitDefEqProofs only [startD, List.length_cons, List.length_nil, List.map_cons, List.map_nil, List.cons_append, List.nil_append, Nat.reduceAdd, Nat.reduceSub, List.replicate, List.set_cons_zero, List.set_cons_succ, List.foldl_cons, List.foldl_nil, x_killD_n, x_killD_c, x_slOf_f, x_slOf_o, x_slOf_t, x_slOf_k]
      have s5 : (0 : Int) ≤ s / 5 ∧ s / 5 < 2 ^ 62 := by omega
      have ek : m / 100 % 3 = ((m / 100 % 3).toNat : Nat) := by omega
      generalize hk : (m / 100 % 3).toNat = k at ek
      have hk3 : k < 100 := by omega
      generalize hj : ((nm (s / 5) k, m % M, (m % M + 1 + m / 9 % L) % M) : Jn) = j
      refine hs_seq (hs_set (x := jnI j) ?_ ?_)
      · rw [← hj]
        exact tup3 (call2 ((dm rfl (by decide) (by decide) (by decide)).trans (by rw [ek])) (dv rfl (by decide) (by decide)) (law_name (s / 5) k s5.1 s5.2 hk3)) rfl rfl
      simp -implicitDefEqProofs only [startD, List.length_cons, List.length_nil, List.map_cons, List.map_nil, List.cons_append, List.nil_append, Nat.reduceAdd, Nat.reduceSub, List.replicate, List.set_cons_zero, List.set_cons_succ, List.foldl_cons, List.foldl_nil, x_killD_n, x_killD_c, x_slOf_f, x_slOf_o, x_slOf_t, x_slOf_k]
      have e1 : bOf (eOp gtD (rVar 0) (eC (.int 1))) [some (Sl.d (.int (n : Nat))), some (.d (.list (cells.map PyData.int))), some (.d (.int s)), some (.o (.list (js.map jnI))), some (.d (.int (i : Nat))), some (.d (.int m)), some (.d (.int (m % M))), some (.d (.int ((m % M + 1 + m / 9 % L) % M))), some (.d (jnI j))] = .ok (decide (1 < (n : Int))) := rfl
      have gj : GN j.1 := by rw [← hj]; exact gn_nm _ _ s5.1
      have e2 : bOf (eOp ninD (rVar 8) (rVar 3)) [some (Sl.d (.int (n : Nat))), some (.d (.list (cells.map PyData.int))), some (.d (.int s)), some (.o (.list (js.map jnI))), some (.d (.int (i : Nat))), some (.d (.int m)), some (.d (.int (m % M))), some (.d (.int ((m % M + 1 + m / 9 % L) % M))), some (.d (jnI j))] = .ok (!decide (j ∈ js)) := bof ((op_ok rfl rfl).trans (nin_jnI (fun q hq => strOk_wc (jo.g q hq).1.c) (strOk_wc gj.c)))
      refine hs_if (c := decide (1 < (n : Int)) && !decide (j ∈ js)) (xAndB _ _ e1 fun _ => e2) (fun q => ?_) (fun _ => hs_next ?_)
      · rw [Bool.and_eq_true, Bool.not_eq_true'] at q
        have q1 := of_decide_eq_true q.1
        have q2 := of_decide_eq_false q.2
        refine hs_app (ds := js.map jnI) (x := jnI j) rfl rfl (szl (by rw [List.length_map]; omega)) ?_
        simp -implicitDefEqProofs only [startD, List.length_cons, List.length_nil, List.map_cons, List.map_nil, List.cons_append, List.nil_append, Nat.reduceAdd, Nat.reduceSub, List.replicate, List.set_cons_zero, List.set_cons_succ, List.foldl_cons, List.foldl_nil, x_killD_n, x_killD_c, x_slOf_f, x_slOf_o, x_slOf_t, x_slOf_k]
        have eM : M = n := by rw [← hM, if_pos q1]
        have eL : L ≤ (n : Int) - 1 := by rw [← hL]; split <;> omega
        refine ⟨js ++ [j], ⟨?_, fun y hy => ?_⟩, by simp; omega, by rw [List.map_append]; rfl⟩
        · rw [List.nodup_append]
          refine ⟨jo.nd, by simp, fun a ha b hb => ?_⟩
          rw [List.mem_singleton.mp hb]
          exact fun z => q2 (z ▸ ha)
        · rcases List.mem_append.mp hy with z | z
          · exact jo.g y z
          · rw [List.mem_singleton.mp z]
            refine ⟨gj, ?_⟩
            rw [← hj]
            have a0 := Int.emod_nonneg m (show M ≠ 0 by omega)
            have a1 := Int.emod_lt_of_pos m hM0
            have b0 := Int.emod_nonneg (m % M + 1 + m / 9 % L) (show M ≠ 0 by omega)
            have b1 := Int.emod_lt_of_pos (m % M + 1 + m / 9 % L) hM0
            have c0 := Int.emod_nonneg (m / 9) (show L ≠ 0 by omega)
            have c1 := Int.emod_lt_of_pos (m / 9) hL0
            exact ⟨⟨a0, by rw [← eM]; exact a1⟩, ⟨b0, by rw [← eM]; exact b1⟩, (turn_ne a0 a1 c0 (by omega)).symm⟩
      · simp -implicitDefEqProofs only [startD, List.length_cons, List.length_nil, List.map_cons, List.map_nil, List.cons_append, List.nil_append, Nat.reduceAdd, Nat.reduceSub, List.replicate, List.set_cons_zero, List.set_cons_succ, List.foldl_cons, List.foldl_nil, x_killD_n, x_killD_c, x_slOf_f, x_slOf_o, x_slOf_t, x_slOf_k]
        exact ⟨js, jo, by omega, rfl⟩
    · rintro _ ⟨js, jo, jl, rfl⟩
      exact hs_retV rfl ⟨js, jo, jl, rfl⟩
  exact ⟨js, ex, h1, h2⟩
def SO (n : Nat) (st : List Sp) : Prop := ∀ t ∈ st, GN t.1 ∧ 0 ≤ t.2 ∧ t.2 < (n : Int)
def stQ (n l : Nat) (x : Sl) : Prop := ∃ st : List Sp, SO n st ∧ st.length ≤ l ∧ x = .o (.list (st.map spI))
theorem law_steps (n : Nat) (cells : List Int) (hl : cells.length ≤ 100) (s : Int) (h0 : 0 ≤ s) (h1 : s < 2 ^ 62) : ∃ st : List Sp, d_law_steps [.int (n : Nat), .list (cells.map PyData.int), .int s] = .rt (.o (.list (st.map spI))) ∧ SO n st ∧ st.length ≤ cells.length := by
  obtain ⟨x, ex, st, h1, h2, rfl⟩ : ∃ x, d_law_steps [.int (n : Nat), .list (cells.map PyData.int), .int s] = .rt x ∧ stQ n cells.length x := by
    refine hs_run (n := 6) (s := S_law_steps) (ds := [.int (n : Nat), .list (cells.map PyData.int), .int s]) (Q := stQ n cells.length) ?_
    unfold S_law_steps
    refine hs_seq (hs_setO (x := .list []) (by simp -implicitDefEqProofs only [s0, s1, s2, s3, s4, s5, s6, s7, s8, s9, x_max2, x_int_b, x_int_i, x_tuple_l, startD, List.length_cons, List.length_nil, List.map_cons, List.map_nil, List.cons_append, List.nil_append, Nat.reduceAdd, Nat.reduceSub, List.replicate, List.set_cons_zero, List.set_cons_succ, x_wipe_cons, x_wipe_nil, x_eOp, x_eC, x_eCB, x_aCons, x_aNil, x_bind_ok, x_add_i, x_len_s, x_len_l, x_len_t, x_bOf, x_eTup, x_eFz, x_oLst, x_eCall, x_aName, x_aTup, x_asCons, x_asNil, x_mod, x_div, x_bAnd, x_bOr, x_bNot, x_asB, x_sub_i, x_neg_i, x_toE_d, x_toE_o, x_notDict, if_true, if_false, reduceIte, Int.reduceLT, Int.reduceAdd, Int.reduceSub, Int.reduceMul, Int.reduceNeg, Int.reducePow, rVar, eVar, hVar, List.getElem?_cons_zero, List.getElem?_cons_succ]) ?_)
    simp -implicitDefEqProofs only [startD, List.length_cons, List.length_nil, List.map_cons, List.map_nil, List.cons_append, List.nil_append, Nat.reduceAdd, Nat.reduceSub, List.replicate, List.set_cons_zero, List.set_cons_succ, List.foldl_cons, List.foldl_nil, x_killD_n, x_killD_c, x_slOf_f, x_slOf_o, x_slOf_t, x_slOf_k]
    refine hs_seq (hs_pre ?_)
    simp -implicitDefEqProofs only [startD, List.length_cons, List.length_nil, List.map_cons, List.map_nil, List.cons_append, List.nil_append, Nat.reduceAdd, Nat.reduceSub, List.replicate, List.set_cons_zero, List.set_cons_succ, List.foldl_cons, List.foldl_nil, x_killD_n, x_killD_c, x_slOf_f, x_slOf_o, x_slOf_t, x_slOf_k]
    refine hs_rng cells.length (rng_c (n := cells.length) ?_ (by omega)) (fun i ρ => ∃ st : List Sp, SO n st ∧ st.length ≤ i ∧ ρ = [some (.d (.int (n : Nat))), some (.d (.list (cells.map PyData.int))), some (.d (.int s)), some (.o (.list (st.map spI))), none, none]) ⟨[], (fun t ht => nomatch ht), Nat.le_refl _, rfl⟩ ?_ ?_
    · rw [cb1 (a := .list (cells.map PyData.int)) rfl, x_len_l, List.length_map]
    · rintro i _ hi ⟨st, so, sl, rfl⟩
      refine ⟨_, rfl, ?_⟩
      simp -implicitDefEqProofs only [startD, List.length_cons, List.length_nil, List.map_cons, List.map_nil, List.cons_append, List.nil_append, Nat.reduceAdd, Nat.reduceSub, List.replicate, List.set_cons_zero, List.set_cons_succ, List.foldl_cons, List.foldl_nil, x_killD_n, x_killD_c, x_slOf_f, x_slOf_o, x_slOf_t, x_slOf_k]
      obtain ⟨c, ec⟩ := cell_at cells i hi
      generalize hm : (c + (i : Int) * (i : Int) + 1) * 1616161616161616161 % 2305843009213693951 = m
      have m0 : 0 ≤ m := hm ▸ mix_nn c (i : Int) 1616161616161616161
      refine hs_seq (hs_set (x := .int m) (call3 (b := .int (i : Nat)) ((op_ok rfl rfl).trans ec) rfl rfl ((law_mix c (i : Nat) 1616161616161616161 (by omega) (by omega) (by decide) (by decide)).trans (by rw [hm]))) ?_)
      simp -implicitDefEqProofs only [startD, List.length_cons, List.length_nil, List.map_cons, List.map_nil, List.cons_append, List.nil_append, Nat.reduceAdd, Nat.reduceSub, List.replicate, List.set_cons_zero, List.set_cons_succ, List.foldl_cons, List.foldl_nil, x_killD_n, x_killD_c, x_slOf_f, x_slOf_o, x_slOf_t, x_slOf_k]
      clear hm
      have e1 : bOf (eOp gtD (rVar 0) (eC (.int 0))) [some (Sl.d (.int (n : Nat))), some (.d (.list (cells.map PyData.int))), some (.d (.int s)), some (.o (.list (st.map spI))), some (.d (.int (i : Nat))), some (.d (.int m))] = .ok (decide (0 < (n : Int))) := rfl
      refine hs_if e1 (fun q => ?_) (fun _ => hs_next ?_)
      · have q1 := of_decide_eq_true q
        have s7 : (0 : Int) ≤ s / 7 ∧ s / 7 < 2 ^ 62 := by omega
        have ek : m / 11 % 3 = ((m / 11 % 3).toNat : Nat) := by omega
        generalize hk : (m / 11 % 3).toNat = k at ek
        have hk3 : k < 100 := by omega
        refine hs_app (ds := st.map spI) (x := spI (nm (s / 7) k, m % (n : Int))) rfl (tup2 (call2 ((dm rfl (by decide) (by decide) (by decide)).trans (by rw [ek])) (dv rfl (by decide) (by decide)) (law_name (s / 7) k s7.1 s7.2 hk3)) ((op_ok rfl rfl).trans (x_mod m _ q1))) (szl (by rw [List.length_map]; omega)) ?_
        simp -implicitDefEqProofs only [startD, List.length_cons, List.length_nil, List.map_cons, List.map_nil, List.cons_append, List.nil_append, Nat.reduceAdd, Nat.reduceSub, List.replicate, List.set_cons_zero, List.set_cons_succ, List.foldl_cons, List.foldl_nil, x_killD_n, x_killD_c, x_slOf_f, x_slOf_o, x_slOf_t, x_slOf_k]
        refine ⟨st ++ [(nm (s / 7) k, m % (n : Int))], fun y hy => ?_, by simp; omega, by rw [List.map_append]; rfl⟩
        rcases List.mem_append.mp hy with z | z
        · exact so y z
        · rw [List.mem_singleton.mp z]
          exact ⟨gn_nm _ _ s7.1, Int.emod_nonneg _ (by omega), Int.emod_lt_of_pos _ q1⟩
      · simp -implicitDefEqProofs only [startD, List.length_cons, List.length_nil, List.map_cons, List.map_nil, List.cons_append, List.nil_append, Nat.reduceAdd, Nat.reduceSub, List.replicate, List.set_cons_zero, List.set_cons_succ, List.foldl_cons, List.foldl_nil, x_killD_n, x_killD_c, x_slOf_f, x_slOf_o, x_slOf_t, x_slOf_k]
        exact ⟨st, so, by omega, rfl⟩
    · rintro _ ⟨st, so, sl, rfl⟩
      exact hs_retV rfl ⟨st, so, sl, rfl⟩
  exact ⟨st, ex, h1, h2⟩
end
end K05
namespace K05
open PySem L2 DL
noncomputable section
theorem hs_lockV {s : Rho → SR} {ρ : Rho} {N : Rho → Prop} {Rt : Sl → Prop} {Ct : Rho → Prop} {i : Nat} {kvs : List (PD × PD)} (h : ρ[i]? = some (some (.d (encD kvs)))) (hk : (kvs.all fun q => ndD q.2) = true)
    (hs : HS s ((ρ.map ndS).set i (some (.l (.dict kvs)))) (fun ρ' => N (ρ'.map ndS)) (fun _ => False) (fun ρ' => Ct (ρ'.map ndS))) : HS (sLockV i s) ρ N Rt Ct := by
  replace hs := hs.out
  refine ⟨?_⟩
  unfold HSm at hs ⊢
  unfold sLockV
  rw [h]
  show (match (if (kvs.all fun q => ndD q.2) = true then unlV (s ((ρ.map ndS).set i (some (.l (.dict kvs))))) else .bad) with | .nx ρ' => N ρ' | .rt x => Rt x | .ct ρ' => Ct ρ' | _ => False)
  rw [if_pos hk]
  cases e : s ((ρ.map ndS).set i (some (.l (.dict kvs)))) with
  | nx ρ' => rw [e] at hs; exact hs
  | rt x => rw [e] at hs; exact hs.elim
  | ct ρ' => rw [e] at hs; exact hs
  | bk ρ' => rw [e] at hs; exact hs.elim
  | exc c => rw [e] at hs; exact hs.elim
  | bad => rw [e] at hs; exact hs.elim
theorem nd_all {α : Type} {f : α → PD} (h : ∀ x, ndD (f x) = true) : ∀ l : List α, ndDs (l.map f) = true
  | [] => rfl
  | x :: l => by
    rw [List.map_cons]
    unfold ndDs
    rw [h x, nd_all h l]
    rfl
theorem nd_l {α : Type} {f : α → PD} (h : ∀ x, ndD (f x) = true) (l : List α) : ndD (.list (l.map f)) = true := by
  unfold ndD
  exact nd_all h l
theorem nd_s (z : Str) : ndD (.str z) = true := by unfold ndD; rfl
theorem nd_i (z : Int) : ndD (.int z) = true := by unfold ndD; rfl
theorem nd_t {l : List PD} (h : ndDs l = true) : ndD (.tuple l) = true := by unfold ndD; exact h
theorem nd_c {d : PD} {l : List PD} (h : ndD d = true) (g : ndDs l = true) : ndDs (d :: l) = true := by unfold ndDs; rw [h, g]; rfl
theorem nd_0 : ndDs [] = true := by unfold ndDs; rfl
theorem nd_jn (j : Jn) : ndD (jnI j) = true := nd_t (nd_c (nd_s _) (nd_c (nd_i _) (nd_c (nd_i _) nd_0)))
theorem nd_sp (j : Sp) : ndD (spI j) = true := nd_t (nd_c (nd_s _) (nd_c (nd_i _) nd_0))
theorem nd_row (r : List Str) : ndD (rowD r) = true := nd_l nd_s r
theorem ndS_dd {x : PD} (h : ndD x = true) : ndS (some (.d x)) = some (.d x) := by
  show (if ndD x = true then some (Sl.d x) else none) = _
  rw [if_pos h]
theorem ndS_oo {l : List PD} (h : ndDs l = true) : ndS (some (.o (.list l))) = some (.o (.list l)) := by
  show (if ndT (.own (.list l)) = true then some (Sl.t (.own (.list l))) else none) = _
  rw [if_pos (by unfold ndT; exact h)]
theorem ndS_n : ndS none = none := rfl
theorem ndS_ll (x : PD) : ndS (some (.l x)) = none := rfl
theorem valD_at : ∀ (es : List (Str × Int)) (k : Nat) (e : Str × Int), (es.map (·.1)).Nodup → es[k]? = some e → valD (es.map szK) (.inr e.1) = some (.int e.2)
  | [], k, e, _, h => by cases h
  | q :: es, 0, e, _, h => by
    cases h
    show (if keyOf (szK q).1 = some (.inr q.1) then _ else _) = _
    rw [if_pos (keyOf_sz.mpr rfl)]
  | q :: es, k + 1, e, n, h => by
    rw [List.map_cons, List.nodup_cons] at n
    show (if keyOf (szK q).1 = some (.inr e.1) then _ else _) = _
    rw [if_neg (fun z => n.1 (by
      rw [keyOf_sz.mp z]
      exact List.mem_map_of_mem (List.mem_of_getElem? h)))]
    exact valD_at es k e n.2 h
def trQ (s : TSt) (x : Sl) : Prop := x = .o (.list ((rowsOf s).map rowD))
theorem take_snoc {α : Type} {l : List α} {i : Nat} {x : α} (h : l[i]? = some x) : l.take (i + 1) = l.take i ++ [x] := by
  rw [List.take_add_one, h]
  rfl
theorem snoc_rows {A : List (List Str)} {α : Type} {f : α → List Str} {l : List α} {i : Nat} {x : α} (h : l[i]? = some x) : (A ++ (l.take i).map f).map rowD ++ [rowD (f x)] = (A ++ (l.take (i + 1)).map f).map rowD := by
  rw [take_snoc h, List.map_append (f := f), ← List.append_assoc, List.map_append (l₂ := [x].map f)]
  rfl
theorem thing_rows (s : TSt) (hz : ∀ p ∈ s.1, p.2.length ≤ 4 ∧ GE p.2) (hp : s.1.length ≤ 8) (hj : s.2.1.length ≤ 16) (hjn : ∀ j ∈ s.2.1, j.2.1.natAbs < 10 ^ 30 ∧ j.2.2.natAbs < 10 ^ 30) (ht : s.2.2.length ≤ 8) (htn : ∀ t ∈ s.2.2, t.2.natAbs < 10 ^ 30) :
    d_law_thing_rows [.list (s.1.map lpI), .list (s.2.1.map jnI), .list (s.2.2.map spI)] = .rt (.o (.list ((rowsOf s).map rowD))) := by
  obtain ⟨ps, js, st⟩ := s
  replace hz : ∀ p ∈ ps, p.2.length ≤ 4 ∧ GE p.2 := hz
  replace hp : ps.length ≤ 8 := hp
  replace hj : js.length ≤ 16 := hj
  replace ht : st.length ≤ 8 := ht
  have pl : ∀ (n : Nat), ((ps.take n).flatMap ptRows).length ≤ 40 := fun n => by
    have h1 : ∀ p ∈ ps.take n, (ptRows p).length ≤ 5 := fun p h => by
      have := (hz p (List.mem_of_mem_take h)).1
      unfold ptRows
      simp
      omega
    have h2 : (ps.take n).length ≤ 8 := by simp; omega
    generalize ps.take n = l at h1 h2
    have : ∀ l : List Pt, (∀ p ∈ l, (ptRows p).length ≤ 5) → (l.flatMap ptRows).length ≤ 5 * l.length := by
      intro l
      induction l with
      | nil => intro _; simp
      | cons p l ih =>
        intro h
        have a := h p List.mem_cons_self
        have b := ih fun q hq => h q (List.mem_cons_of_mem _ hq)
        rw [List.flatMap_cons, List.length_append, List.length_cons]
        omega
    have := this l h1
    omega
  obtain ⟨x, ex, rfl⟩ : ∃ x, d_law_thing_rows [.list (ps.map lpI), .list (js.map jnI), .list (st.map spI)] = .rt x ∧ trQ (ps, js, st) x := by
    refine hs_run (n := 9) (s := S_law_thing_rows) (ds := [.list (ps.map lpI), .list (js.map jnI), .list (st.map spI)]) (Q := trQ (ps, js, st)) ?_
    unfold S_law_thing_rows
    refine hs_seq (hs_setO (x := .list []) (by simp -implicitDefEqProofs only [s0, s1, s2, s3, s4, s5, s6, s7, s8, s9, x_max2, x_int_b, x_int_i, x_tuple_l, startD, List.length_cons, List.length_nil, List.map_cons, List.map_nil, List.cons_append, List.nil_append, Nat.reduceAdd, Nat.reduceSub, List.replicate, List.set_cons_zero, List.set_cons_succ, x_wipe_cons, x_wipe_nil, x_eOp, x_eC, x_eCB, x_aCons, x_aNil, x_bind_ok, x_add_i, x_len_s, x_len_l, x_len_t, x_bOf, x_eTup, x_eFz, x_oLst, x_eCall, x_aName, x_aTup, x_asCons, x_asNil, x_mod, x_div, x_bAnd, x_bOr, x_bNot, x_asB, x_sub_i, x_neg_i, x_toE_d, x_toE_o, x_notDict, if_true, if_false, reduceIte, Int.reduceLT, Int.reduceAdd, Int.reduceSub, Int.reduceMul, Int.reduceNeg, Int.reducePow, rVar, eVar, hVar, List.getElem?_cons_zero, List.getElem?_cons_succ]) ?_)
    simp -implicitDefEqProofs only [startD, List.length_cons, List.length_nil, List.map_cons, List.map_nil, List.cons_append, List.nil_append, Nat.reduceAdd, Nat.reduceSub, List.replicate, List.set_cons_zero, List.set_cons_succ, List.foldl_cons, List.foldl_nil, x_killD_n, x_killD_c, x_slOf_f, x_slOf_o, x_slOf_t, x_slOf_k]
    refine hs_seq (hs_pre ?_)
    simp -implicitDefEqProofs only [startD, List.length_cons, List.length_nil, List.map_cons, List.map_nil, List.cons_append, List.nil_append, Nat.reduceAdd, Nat.reduceSub, List.replicate, List.set_cons_zero, List.set_cons_succ, List.foldl_cons, List.foldl_nil, x_killD_n, x_killD_c, x_slOf_f, x_slOf_o, x_slOf_t, x_slOf_k]
    refine hs_forL lpI ps (it_l rfl) (fun i ρ => ∃ x0, ρ = [x0, some (.d (.list (js.map jnI))), some (.d (.list (st.map spI))), some (.o (.list (((ps.take i).flatMap ptRows).map rowD))), none, none, none, none, none]) ⟨_, rfl⟩ ?_ ?_
    · rintro i p _ hi ⟨x0, rfl⟩
      refine ⟨[x0, some (.d (.list (js.map jnI))), some (.d (.list (st.map spI))), some (.o (.list (((ps.take i).flatMap ptRows).map rowD))), some (.d (.str p.1)), some (.d (encD (p.2.map szK))), none, none, none], rfl, ?_⟩
      have p1 := pl i
      obtain ⟨z1, z2⟩ := hz p (List.mem_of_getElem? hi)
      refine hs_seq (hs_app (ds := ((ps.take i).flatMap ptRows).map rowD) (x := rowD [wPart, p.1]) rfl (lsN (ac_ok rfl (ac_ok rfl rfl)) (by simp)) (szl (by rw [List.length_map]; omega)) ?_)
      simp -implicitDefEqProofs only [startD, List.length_cons, List.length_nil, List.map_cons, List.map_nil, List.cons_append, List.nil_append, Nat.reduceAdd, Nat.reduceSub, List.replicate, List.set_cons_zero, List.set_cons_succ, List.foldl_cons, List.foldl_nil, x_killD_n, x_killD_c, x_slOf_f, x_slOf_o, x_slOf_t, x_slOf_k]
      refine hs_lockV (kvs := p.2.map szK) rfl (by rw [List.all_map]; exact List.all_eq_true.mpr fun q _ => nd_i q.2) ?_
      have e0 : ((ps.take i).flatMap ptRows).map rowD ++ [rowD [wPart, p.1]] = (((ps.take i).flatMap ptRows) ++ [[wPart, p.1]]).map rowD := by rw [List.map_append]; rfl
      rw [e0]
      simp only [List.map_cons, List.map_nil, ndS_n, ndS_dd (nd_l nd_jn js), ndS_dd (nd_l nd_sp st), ndS_oo (nd_all nd_row _), ndS_dd (nd_s _)]
      generalize ndS x0 = y0
      generalize ndS (some (Sl.d (encD (p.2.map szK)))) = y5
      simp -implicitDefEqProofs only [startD, List.length_cons, List.length_nil, List.map_cons, List.map_nil, List.cons_append, List.nil_append, Nat.reduceAdd, Nat.reduceSub, List.replicate, List.set_cons_zero, List.set_cons_succ, List.foldl_cons, List.foldl_nil, x_killD_n, x_killD_c, x_slOf_f, x_slOf_o, x_slOf_t, x_slOf_k]
      refine hs_pre ?_
      simp -implicitDefEqProofs only [startD, List.length_cons, List.length_nil, List.map_cons, List.map_nil, List.cons_append, List.nil_append, Nat.reduceAdd, Nat.reduceSub, List.replicate, List.set_cons_zero, List.set_cons_succ, List.foldl_cons, List.foldl_nil, x_killD_n, x_killD_c, x_slOf_f, x_slOf_o, x_slOf_t, x_slOf_k]
      refine hs_forL (fun e : Str × Int => PyData.str e.1) p.2 ?_ (fun k ρ => ρ = [y0, some (.d (.list (js.map jnI))), some (.d (.list (st.map spI))), some (.o (.list ((((ps.take i).flatMap ptRows ++ [[wPart, p.1]]) ++ (p.2.take k).map szRow).map rowD))), some (.d (.str p.1)), some (.l (.dict (p.2.map szK))), none, none, none]) ?_ ?_ ?_
      · show R.ok ((p.2.map szK).map (·.1)) = _
        rw [List.map_map]
        rfl
      · rw [List.take_zero, List.map_nil, List.append_nil]
      · rintro k e _ hk rfl
        refine ⟨_, rfl, ?_⟩
        simp -implicitDefEqProofs only [startD, List.length_cons, List.length_nil, List.map_cons, List.map_nil, List.cons_append, List.nil_append, Nat.reduceAdd, Nat.reduceSub, List.replicate, List.set_cons_zero, List.set_cons_succ, List.foldl_cons, List.foldl_nil, x_killD_n, x_killD_c, x_slOf_f, x_slOf_o, x_slOf_t, x_slOf_k]
        have ge := (z2.g e (List.mem_of_getElem? hk)).2
        have es : eCB strD (aCons (eDget 5 (rVar 6)) aNil) [y0, some (.d (.list (js.map jnI))), some (.d (.list (st.map spI))), some (.o (.list ((((ps.take i).flatMap ptRows ++ [[wPart, p.1]]) ++ (p.2.take k).map szRow).map rowD))), some (.d (.str p.1)), some (.l (.dict (p.2.map szK))), some (.d (.str e.1)), none, none] = .ok (.str (tS e.2)) :=
          (cb1 (dget_l (kvs := p.2.map szK) (a := e.1) rfl rfl (valD_at p.2 k e z2.nd hk))).trans (str_tS _ ge)
        refine hs_app (ds := (((ps.take i).flatMap ptRows ++ [[wPart, p.1]]) ++ (p.2.take k).map szRow).map rowD) (x := rowD (szRow e)) rfl (lsN (ac_ok rfl (ac_ok rfl (ac_ok es rfl))) (by simp [szRow])) (szl (by simp; simp at p1; omega)) ?_
        simp -implicitDefEqProofs only [startD, List.length_cons, List.length_nil, List.map_cons, List.map_nil, List.cons_append, List.nil_append, Nat.reduceAdd, Nat.reduceSub, List.replicate, List.set_cons_zero, List.set_cons_succ, List.foldl_cons, List.foldl_nil, x_killD_n, x_killD_c, x_slOf_f, x_slOf_o, x_slOf_t, x_slOf_k]
        rw [snoc_rows hk]
      · rintro _ rfl
        rw [List.take_of_length_le (Nat.le_refl _), List.append_assoc]
        simp only [List.map_cons, List.map_nil, ndS_n, ndS_dd (nd_l nd_jn js), ndS_dd (nd_l nd_sp st), ndS_oo (nd_all nd_row _), ndS_dd (nd_s _), ndS_ll]
        generalize ndS y0 = w0
        simp -implicitDefEqProofs only [startD, List.length_cons, List.length_nil, List.map_cons, List.map_nil, List.cons_append, List.nil_append, Nat.reduceAdd, Nat.reduceSub, List.replicate, List.set_cons_zero, List.set_cons_succ, List.foldl_cons, List.foldl_nil, x_killD_n, x_killD_c, x_slOf_f, x_slOf_o, x_slOf_t, x_slOf_k]
        refine ⟨w0, ?_⟩
        rw [take_snoc hi, List.flatMap_append, List.flatMap_cons, List.flatMap_nil, List.append_nil]
        rfl
    · rintro _ ⟨x0, rfl⟩
      rw [List.take_of_length_le (Nat.le_refl _)]
      have p1 := pl ps.length
      rw [List.take_of_length_le (Nat.le_refl _)] at p1
      generalize hA : ps.flatMap ptRows = A at p1
      refine hs_seq (hs_pre ?_)
      simp -implicitDefEqProofs only [startD, List.length_cons, List.length_nil, List.map_cons, List.map_nil, List.cons_append, List.nil_append, Nat.reduceAdd, Nat.reduceSub, List.replicate, List.set_cons_zero, List.set_cons_succ, List.foldl_cons, List.foldl_nil, x_killD_n, x_killD_c, x_slOf_f, x_slOf_o, x_slOf_t, x_slOf_k]
      refine hs_forL jnI js (it_l rfl) (fun i ρ => ρ = [x0, some (.d (.list (js.map jnI))), some (.d (.list (st.map spI))), some (.o (.list ((A ++ (js.take i).map jnRow).map rowD))), none, none, none, none, none]) ?_ ?_ ?_
      · rw [List.take_zero, List.map_nil, List.append_nil]
      · rintro i j _ hi rfl
        refine ⟨[x0, some (.d (.list (js.map jnI))), some (.d (.list (st.map spI))), some (.o (.list ((A ++ (js.take i).map jnRow).map rowD))), none, none, some (.d (.str j.1)), some (.d (.int j.2.1)), some (.d (.int j.2.2))], rfl, ?_⟩
        obtain ⟨n1, n2⟩ := hjn j (List.mem_of_getElem? hi)
        refine hs_app (ds := (A ++ (js.take i).map jnRow).map rowD) (x := rowD (jnRow j)) rfl (lsN (ac_ok rfl (ac_ok rfl (ac_ok ((cb1 rfl).trans (str_tS _ n1)) (ac_ok ((cb1 rfl).trans (str_tS _ n2)) rfl)))) (by simp [jnRow])) (szl (by simp; omega)) ?_
        simp -implicitDefEqProofs only [startD, List.length_cons, List.length_nil, List.map_cons, List.map_nil, List.cons_append, List.nil_append, Nat.reduceAdd, Nat.reduceSub, List.replicate, List.set_cons_zero, List.set_cons_succ, List.foldl_cons, List.foldl_nil, x_killD_n, x_killD_c, x_slOf_f, x_slOf_o, x_slOf_t, x_slOf_k]
        rw [snoc_rows hi]
      · rintro _ rfl
        rw [List.take_of_length_le (Nat.le_refl _)]
        generalize hB : A ++ js.map jnRow = B
        have bl : B.length ≤ 56 := by rw [← hB]; simp; omega
        refine hs_seq (hs_pre ?_)
        simp -implicitDefEqProofs only [startD, List.length_cons, List.length_nil, List.map_cons, List.map_nil, List.cons_append, List.nil_append, Nat.reduceAdd, Nat.reduceSub, List.replicate, List.set_cons_zero, List.set_cons_succ, List.foldl_cons, List.foldl_nil, x_killD_n, x_killD_c, x_slOf_f, x_slOf_o, x_slOf_t, x_slOf_k]
        refine hs_forL spI st (it_l rfl) (fun i ρ => ρ = [x0, some (.d (.list (js.map jnI))), some (.d (.list (st.map spI))), some (.o (.list ((B ++ (st.take i).map spRow).map rowD))), none, none, none, none, none]) ?_ ?_ ?_
        · rw [List.take_zero, List.map_nil, List.append_nil]
        · rintro i t _ hi rfl
          refine ⟨[x0, some (.d (.list (js.map jnI))), some (.d (.list (st.map spI))), some (.o (.list ((B ++ (st.take i).map spRow).map rowD))), none, none, some (.d (.str t.1)), some (.d (.int t.2)), none], rfl, ?_⟩
          have n1 := htn t (List.mem_of_getElem? hi)
          refine hs_app (ds := (B ++ (st.take i).map spRow).map rowD) (x := rowD (spRow t)) rfl (lsN (ac_ok rfl (ac_ok rfl (ac_ok ((cb1 rfl).trans (str_tS _ n1)) rfl))) (by simp [spRow])) (szl (by simp; omega)) ?_
          simp -implicitDefEqProofs only [startD, List.length_cons, List.length_nil, List.map_cons, List.map_nil, List.cons_append, List.nil_append, Nat.reduceAdd, Nat.reduceSub, List.replicate, List.set_cons_zero, List.set_cons_succ, List.foldl_cons, List.foldl_nil, x_killD_n, x_killD_c, x_slOf_f, x_slOf_o, x_slOf_t, x_slOf_k]
          rw [snoc_rows hi]
        · rintro _ rfl
          rw [List.take_of_length_le (Nat.le_refl _)]
          refine hs_retV rfl ?_
          unfold trQ rowsOf
          rw [hA, hB]
  exact ex
end
end K05
namespace K05
open PySem L2 DL
noncomputable section
theorem text_rows (rows : List (List Str)) (s : Int) (h0 : 0 ≤ s) (hr : ∀ r ∈ rows, r ≠ [] ∧ (∀ w ∈ r, Wc w) ∧ r.length ≤ 5) (hl : rows.length ≤ 100) : ∃ (z : Str) (ls : List Str), d_law_text [.list (rows.map rowD), .int s] = .rt (.d (.str z)) ∧ Txt.split z nl = ls ∧ z.length ≤ 200000 ∧ ls.length ≤ 1000 ∧ (∀ l ∈ ls, l.length ≤ 1000 ∧ ∀ w ∈ Txt.words l, PyData.strOk w = true) ∧ (keepW (enumP 0 ls)).map (·.2) = rows := by
  obtain ⟨lines, et, t, hn⟩ := law_text rows s h0 hr hl
  obtain ⟨ls, es, t2, hls⟩ := t.split
  have sl := sum_le lines 300 fun z hz => (t.ok z hz).2
  have nlen : nl.length = 1 := by decide +kernel
  have jl : (Txt.join nl lines).length ≤ 200000 := by
    have := join_le nl lines
    rw [nlen] at this
    omega
  refine ⟨_, ls, et, es, jl, by omega, fun l hl => ⟨by have := (t2.ok l hl).2; omega, fun w hw => ?_⟩, by rw [keepW_rows]; exact t2.w⟩
  have m : Txt.words l ∈ rows := by
    rw [← t2.w]
    exact List.mem_filter.mpr ⟨List.mem_map_of_mem hl, decide_eq_true fun q => by rw [q] at hw; cases hw⟩
  exact strOk_wc ((hr _ m).2.1 w hw)
end
end K05
namespace K05
open PySem L2 DL
theorem Wc.ne {z : Str} (h : Wc z) : cs z ≠ [] := fun q => by
  have := cs_len z
  rw [q] at this
  have := h.lo
  simp at *
  omega
def wl : List Str → List Nat
  | [] => []
  | [w] => cs w
  | w :: w2 :: r => cs w ++ 32 :: wl (w2 :: r)
theorem wl_app : ∀ {a b : List Str}, a ≠ [] → b ≠ [] → wl (a ++ b) = wl a ++ 32 :: wl b
  | [], _, h, _ => absurd rfl h
  | [w], [], _, h => absurd rfl h
  | [w], x :: r, _, _ => rfl
  | w :: w2 :: r, b, _, hb => by
    have ih := wl_app (a := w2 :: r) (b := b) (by simp) hb
    show cs w ++ 32 :: wl ((w2 :: r) ++ b) = (cs w ++ 32 :: wl (w2 :: r)) ++ 32 :: wl b
    rw [ih, List.append_assoc]
    rfl
def Tx (z : Str) (ws : List Str) : Prop := cs z = wl ws
theorem Tx.uniq {z y : Str} {ws : List Str} (h : Tx z ws) (k : Tx y ws) : z = y := cs_ext (h.trans k.symm)
theorem Tx.one (w : Str) : Tx w [w] := rfl
theorem sp_cs : cs (Str.ofString " ") = [32] := by decide +kernel
theorem Tx.sp {a b : Str} {ws vs : List Str} (h : Tx a ws) (k : Tx b vs) (h0 : ws ≠ []) (k0 : vs ≠ []) : Tx (a ++ Str.ofString " " ++ b) (ws ++ vs) := by
  unfold Tx at *
  rw [cs_app, cs_app, sp_cs, h, k, wl_app h0 k0, List.append_assoc]
  rfl
def Tp (z : Str) (ws : List Str) : Prop := cs z = wl ws ++ [32]
theorem Tp.app {a b : Str} {ws vs : List Str} (h : Tp a ws) (k : Tx b vs) (h0 : ws ≠ []) (k0 : vs ≠ []) : Tx (a ++ b) (ws ++ vs) := by
  unfold Tx Tp at *
  rw [cs_app, h, k, wl_app h0 k0, List.append_assoc]
  rfl
def Tm (z : Str) (ws : List Str) : Prop := cs z = 32 :: wl ws ++ [32]
theorem Tm.app {a m b : Str} {us ws vs : List Str} (h : Tx a us) (l : Tm m ws) (k : Tx b vs) (u0 : us ≠ []) (w0 : ws ≠ []) (k0 : vs ≠ []) : Tx (a ++ m ++ b) (us ++ ws ++ vs) := by
  unfold Tx Tm at *
  rw [cs_app, cs_app, h, l, k, wl_app (by simp [u0]) k0, wl_app u0 w0]
  simp
theorem fold_w (w : Str) (hw : Wc w) (ws : List (List Nat)) : (cs w).foldl TL.wstep (ws, []) = (ws, cs w) := by
  rw [TL.wfold_word (cs w) ws [] fun c hc => nospace (hw.ch c hc), List.nil_append]
theorem fold_wl : ∀ (l : List Str) (x : Str) (acc : List (List Nat)), (∀ w ∈ l ++ [x], Wc w) → (wl (l ++ [x])).foldl TL.wstep (acc, []) = (acc ++ l.map cs, cs x)
  | [], x, acc, h => by
    rw [List.map_nil, List.append_nil]
    exact fold_w x (h x (by simp)) acc
  | w :: l, x, acc, h => by
    have e : wl (w :: l ++ [x]) = cs w ++ 32 :: wl (l ++ [x]) := by
      have := wl_app (a := [w]) (b := l ++ [x]) (by simp) (by simp)
      exact this
    rw [e, List.foldl_append, fold_w w (h w (by simp)), List.foldl_cons]
    have hw := h w (by simp)
    have e2 : TL.wstep (acc, cs w) 32 = (acc ++ [cs w], []) := by
      unfold TL.wstep
      rw [if_pos sp32, if_neg hw.ne]
    rw [e2, fold_wl l x (acc ++ [cs w]) fun y hy => h y (by simp at hy ⊢; exact .inr hy), List.map_cons, List.append_assoc]
    rfl
theorem mapcs_inj : ∀ {a b : List Str}, a.map cs = b.map cs → a = b
  | [], [], _ => rfl
  | [], _ :: _, h => by cases h
  | _ :: _, [], h => by cases h
  | x :: a, y :: b, h => by
    rw [List.map_cons, List.map_cons] at h
    injection h with h1 h2
    rw [cs_ext h1, mapcs_inj h2]
theorem Tx.words {z : Str} {ws : List Str} (h : Tx z ws) (h0 : ws ≠ []) (hw : ∀ w ∈ ws, Wc w) : Txt.words z = ws := by
  have e := TL.words_tl z
  obtain ⟨l, x, rfl⟩ : ∃ l x, ws = l ++ [x] := ⟨ws.dropLast, ws.getLast h0, (List.dropLast_concat_getLast h0).symm⟩
  unfold Tx at h
  rw [show TL.tl z = cs z from rfl, h, fold_wl l x [] hw] at e
  have ne := (hw x (by simp)).ne
  have e : (Txt.words z).map cs = (l ++ [x]).map cs := by
    rw [List.map_append]
    refine e.trans ?_
    rw [List.nil_append]
    unfold TL.wfin
    simp [ne]
  exact mapcs_inj e
theorem wl_no : ∀ {ws : List Str}, (∀ w ∈ ws, Wc w) → ∀ c ∈ wl ws, c ≠ 10
  | [], _, c, hc => by cases hc
  | [w], h, c, hc => by
    have := (h w (by simp)).ch c hc
    omega
  | w :: w2 :: r, h, c, hc => by
    rcases List.mem_append.mp hc with q | q
    · have := (h w (by simp)).ch c q
      omega
    · rcases List.mem_cons.mp q with q | q
      · omega
      · exact wl_no (fun y hy => h y (List.mem_cons_of_mem _ hy)) c q
theorem wl_len : ∀ {ws : List Str}, (∀ w ∈ ws, Wc w) → (wl ws).length ≤ 32 * ws.length
  | [], _ => by simp [wl]
  | [w], h => by
    have := (h w (by simp)).hi
    show (cs w).length ≤ _
    rw [cs_len, List.length_singleton]
    omega
  | w :: w2 :: r, h => by
    have := (h w (by simp)).hi
    have ih := wl_len (ws := w2 :: r) fun y hy => h y (List.mem_cons_of_mem _ hy)
    show (cs w ++ 32 :: wl (w2 :: r)).length ≤ _
    rw [List.length_append, cs_len, List.length_cons, List.length_cons]
    omega
theorem Tx.len {z : Str} {ws : List Str} (h : Tx z ws) (hw : ∀ w ∈ ws, Wc w) : z.length ≤ 32 * ws.length := by
  rw [← cs_len, show cs z = wl ws from h]
  exact wl_len hw
end K05
namespace K05
open PySem L2 DL
noncomputable section
section
variable {α β : Type}
theorem insB_map (f : β → α) (lt : α → α → Bool) (a : β) : ∀ l : List β, insB lt (f a) (l.map f) = (insB (fun a b => lt (f a) (f b)) a l).map f
  | [] => rfl
  | b :: l => by
    rw [List.map_cons]
    unfold insB
    by_cases c : lt (f b) (f a) = true
    · rw [if_pos c, if_pos c, insB_map f lt a l, List.map_cons]
    · rw [if_neg c, if_neg c, List.map_cons, List.map_cons]
theorem isort_map (f : β → α) (lt : α → α → Bool) : ∀ l : List β, isort lt (l.map f) = (isort (fun a b => lt (f a) (f b)) l).map f
  | [] => rfl
  | a :: l => by
    rw [List.map_cons]
    show insB lt (f a) (isort lt (l.map f)) = (insB _ a (isort _ l)).map f
    rw [isort_map f lt l, insB_map]
theorem sorted_gen (f : α → List Key) (g : α → PD) (hg : ∀ a, g a = keyP (f a)) (ne : ∀ a, (f a).isEmpty = false) (lk : ∀ a b, likeK (f a) (f b) = true) (l : List α) : sortedD [.list (l.map g)] = .ok (.list ((isort (fun a b => ltKs (f a) (f b)) l).map g)) := by
  have e1 : ∀ l : List α, l.map g = (l.map f).map keyP := fun l => by
    rw [List.map_map]
    exact List.map_congr_left fun a _ => hg a
  cases l with
  | nil => rfl
  | cons a l =>
    show (match asInts ((a :: l).map g) with
      | some ns => R.ok (PyData.list ((sortI ns).map PyData.int))
      | none => match allKeys ((a :: l).map g) with
        | some ks => if likeAll ks = true then R.ok (PyData.list ((sortK ks).map keyP)) else .bad
        | none => .bad) = _
    have e2 : asInts ((a :: l).map g) = none := by
      rw [List.map_cons, hg]
      rfl
    have lkA : likeAll ((a :: l).map f) = true := by
      unfold likeAll
      rw [List.all_eq_true]
      intro x hx
      obtain ⟨p, _, rfl⟩ := List.mem_map.mp hx
      rw [Bool.and_eq_true, List.all_eq_true]
      refine ⟨by rw [ne]; rfl, fun b hb => ?_⟩
      obtain ⟨p2, _, rfl⟩ := List.mem_map.mp hb
      exact lk p p2
    rw [e2]
    dsimp only
    rw [e1, allKeys_map]
    dsimp only
    rw [if_pos lkA]
    show R.ok (PyData.list ((isort (fun a b => ltKs a b) ((a :: l).map f)).map keyP)) = _
    rw [isort_map f, ← e1]
end
def kE (e : Str × Int) : List Key := [.inr e.1, .inl e.2]
def kJ (j : Jn) : List Key := [.inr j.1, .inl j.2.1, .inl j.2.2]
def sortE (es : List (Str × Int)) : List (Str × Int) := isort (fun a b => ltKs (kE a) (kE b)) es
def sortJ (js : List Jn) : List Jn := isort (fun a b => ltKs (kJ a) (kJ b)) js
def sortN (es : List (Str × Int)) : List (Str × Int) := isort (fun a b => ltS a.1 b.1) es
theorem sort_es (es : List (Str × Int)) : sortedD [.list (es.map szI)] = .ok (.list ((sortE es).map szI)) := sorted_gen kE szI (fun _ => rfl) (fun _ => rfl) (fun _ _ => rfl) es
theorem sort_js (js : List Jn) : sortedD [.list (js.map jnI)] = .ok (.list ((sortJ js).map jnI)) := sorted_gen kJ jnI (fun _ => rfl) (fun _ => rfl) (fun _ _ => rfl) js
theorem sortE_p (es : List (Str × Int)) : (sortE es).Perm es := isort_perm _ es
theorem sortJ_p (js : List Jn) : (sortJ js).Perm js := isort_perm _ js
theorem sortN_p (es : List (Str × Int)) : (sortN es).Perm es := isort_perm _ es
theorem tri_E (a b : Str × Int) (h : ltKs (kE a) (kE b) = false) (h2 : ltKs (kE b) (kE a) = false) : a = b := by
  have := ltKs_tri h h2
  unfold kE at this
  injection this with h1 h2
  injection h2 with h2
  injection h1 with h1
  injection h2 with h2
  exact Prod.ext h1 h2
theorem tri_J (a b : Jn) (h : ltKs (kJ a) (kJ b) = false) (h2 : ltKs (kJ b) (kJ a) = false) : a = b := by
  have := ltKs_tri h h2
  unfold kJ at this
  injection this with h1 h2
  injection h2 with h2 h3
  injection h3 with h3
  injection h1 with h1
  injection h2 with h2
  injection h3 with h3
  exact Prod.ext h1 (Prod.ext h2 h3)
theorem sortE_i (es : List (Str × Int)) : sortE (sortE es) = sortE es := (isort_of (swo_keys kE) tri_E (isort_srt (swo_keys kE) es) (List.Perm.refl _)).symm
theorem sortJ_i (js : List Jn) : sortJ (sortJ js) = sortJ js := (isort_of (swo_keys kJ) tri_J (isort_srt (swo_keys kJ) js) (List.Perm.refl _)).symm
theorem sortN_E {es : List (Str × Int)} (h : (es.map (·.1)).Nodup) : sortN es = sortE es := by
  refine isort_of (swo_keys kE) tri_E ?_ (sortN_p es)
  have s : SrtO.Srtd (fun a b : Str × Int => ltS a.1 b.1) (sortN es) := isort_srt (swo_keys fun e : Str × Int => strK1 e.1) es
  have n : ((sortN es).map (·.1)).Nodup := ((sortN_p es).map (·.1)).nodup_iff.mpr h
  have n2 : List.Pairwise (fun a b : Str × Int => a.1 ≠ b.1) (sortN es) := List.pairwise_map.mp n
  refine (List.Pairwise.and s n2).imp fun {a b} q => ?_
  obtain ⟨q1, q2⟩ := q
  have q1 : ltKs (strK1 b.1) (strK1 a.1) = false := q1
  show ltKs (kE b) (kE a) = false
  unfold kE
  unfold strK1 at q1
  unfold ltKs at q1 ⊢
  rw [if_neg (fun z => q2 (by injection z with z; exact z.symm))] at q1 ⊢
  exact q1
theorem names_sorted (es : List (Str × Int)) : sortSt (es.map (·.1)) = (sortN es).map (·.1) := isort_map _ _ es
def sortT (s : TSt) : TSt := (s.1.map fun p => (p.1, sortE p.2), sortJ s.2.1, s.2.2)
theorem sortT_i (s : TSt) : sortT (sortT s) = sortT s := by
  unfold sortT
  rw [List.map_map, sortJ_i]
  congr 1
  refine List.map_congr_left fun p _ => ?_
  show (p.1, sortE (sortE p.2)) = (p.1, sortE p.2)
  rw [sortE_i]
def thD (s : TSt) : PD := .tuple [.list (s.1.map ptI), .list (s.2.1.map jnI), .list (s.2.2.map spI)]
def thT (s : TSt) : Tv := .tup [psT s.1, .own (.list (s.2.1.map jnI)), .own (.list (s.2.2.map spI))]
theorem toD_th (s : TSt) : (thT s).toD = .ok (thD s) := by
  unfold thT
  rw [x_toD_t, x_toDs_c, toD_ps, x_bind_ok, x_toDs_c, x_toD_l, x_bind_ok, x_toDs_c, x_toD_l, x_bind_ok, x_toDs_n, x_bind_ok, x_bind_ok, x_bind_ok, x_bind_ok]
  rfl
theorem Gd.sorted {ks : Ks} {s : TSt} (h : Gd ks s) : Gd ks (sortT s) := by
  have pm : ∀ p ∈ (sortT s).1, ∃ q ∈ s.1, p = (q.1, sortE q.2) := fun p hp => by
    obtain ⟨q, hq, e⟩ := List.mem_map.mp hp
    exact ⟨q, hq, e.symm⟩
  have jm : ∀ j ∈ (sortT s).2.1, j ∈ s.2.1 := fun j hj => (sortJ_p s.2.1).mem_iff.mp hj
  have pl : (sortT s).1.length = s.1.length := List.length_map ..
  refine ⟨⟨by rw [pl]; exact h.t.p, fun p hp => ?_, by rw [show (sortT s).2.1.length = s.2.1.length from (sortJ_p s.2.1).length_eq]; exact h.t.j, fun j hj => h.t.jw j (jm j hj), h.t.t⟩, fun p hp => ?_, fun p hp => ?_, (sortJ_p s.2.1).nodup_iff.mpr h.jn, fun j hj => ?_, fun t ht => ?_⟩
  · obtain ⟨q, hq, rfl⟩ := pm p hp
    show (sortE q.2).length ≤ 4
    rw [(sortE_p q.2).length_eq]
    exact h.t.s q hq
  · obtain ⟨q, hq, rfl⟩ := pm p hp
    exact h.pk q hq
  · obtain ⟨q, hq, rfl⟩ := pm p hp
    obtain ⟨a, b⟩ := h.ps q hq
    exact ⟨((sortE_p q.2).map (·.1)).nodup_iff.mpr a, fun e he => b e ((sortE_p q.2).mem_iff.mp he)⟩
  · rw [pl]
    exact h.jg j (jm j hj)
  · rw [pl]
    exact h.sg t ht
end
end K05
namespace K05
open PySem L2 DL
noncomputable section
theorem mlc_eq {γ : Type} {gi : Rho → R (List PD)} {a : Rho → PD → R Rho} {ge : Rho → R Tv} {vs : List Nat} {ρ : Rho} {xs : List γ} (f : γ → PD) (g : γ → Tv) (e : gi ρ = .ok (xs.map f)) (hl : xs.length ≤ sizeLine)
    (h : ∀ x ∈ xs, ∃ ρ1, a (wipeD ρ vs) (f x) = .ok ρ1 ∧ ge ρ1 = .ok (g x)) : mLc gi a gYes ge vs ρ = .ok (.lst (xs.map g)) := by
  have go : ∀ xs : List γ, (∀ x ∈ xs, ∃ ρ1, a (wipeD ρ vs) (f x) = .ok ρ1 ∧ ge ρ1 = .ok (g x)) → lcL (lcE a gYes ge (wipeD ρ vs)) (xs.map f) = .ok (xs.map g) := by
    intro xs
    induction xs with
    | nil => intro _; rfl
    | cons x xs ih =>
      intro h
      obtain ⟨ρ1, e1, e2⟩ := h x List.mem_cons_self
      rw [List.map_cons]
      unfold lcL lcE
      rw [e1, x_bind_ok, x_gYes, x_bind_ok, if_pos rfl, e2, x_bind_ok, x_bind_ok]
      show ((lcL (lcE a gYes ge (wipeD ρ vs)) (xs.map f)).bind fun l => R.ok ((some (g x)).toList ++ l)) = _
      rw [ih fun y hy => h y (List.mem_cons_of_mem _ hy), x_bind_ok]
      rfl
  unfold mLc
  rw [e, x_bind_ok, go xs h]
  show (if (xs.map g).length ≤ sizeLine then R.ok (Tv.lst (xs.map g)) else R.bad) = _
  rw [if_pos (by rw [List.length_map]; exact hl)]
theorem frz_tree {ρ : Rho} {i : Nat} {x : Tv} {d : PD} (h : ρ[i]? = some (some (.t x))) (e : x.toD = .ok d) : frz1 i ρ = ρ.set i (some (.d d)) := by
  unfold frz1
  rw [h]
  dsimp only
  rw [e]
theorem mown_ok {g : Rho → R PD} {ρ : Rho} {d : PD} (h : g ρ = .ok d) : mOwn g ρ = .ok (.own d) := by
  unfold mOwn
  rw [h, x_bind_ok]
theorem mfr_ok {g : Rho → R PD} {ρ : Rho} {d : PD} (h : g ρ = .ok d) : mFr g ρ = .ok (.fr d) := by
  unfold mFr
  rw [h, x_bind_ok]
theorem ma_ok {g : Rho → R Tv} {gr : Rho → R (List Tv)} {ρ : Rho} {x : Tv} {l : List Tv} (h : g ρ = .ok x) (hr : gr ρ = .ok l) : maCons g gr ρ = .ok (x :: l) := by
  rw [x_maCons, h, x_bind_ok, hr, x_bind_ok]
theorem mtup_ok {gr : Rho → R (List Tv)} {ρ : Rho} {l : List Tv} (h : gr ρ = .ok l) (hl : l.length ≤ 100) : mTup gr ρ = .ok (.tup l) := by
  rw [x_mTup, h, x_bind_ok]
  exact if_pos (sz (by omega))
def rdE : Rho → SR := sFrz [2] (sRetM (mTup (maCons (mLc (iItems (eVar 2)) (aTup 2 (asCons (aName 7) (asCons (aName 8) asNil))) gYes (mTup (maCons (mFr (eVar 7)) (maCons (mOwn (eCB sortedD (aCons (rVar 8) aNil))) maNil))) [7, 8]) (maCons (mOwn (eCB sortedD (aCons (rVar 3) aNil))) (maCons (mVar 4) maNil)))))
theorem rd_end (K z : PD) (s : TSt) (h : s.1.length ≤ 8) : rdE (rtS K z (psT s.1) (s.2.1.map jnI) (s.2.2.map spI) none none) = .rt (.t (thT (sortT s))) := by
  have e2 : frz1 2 (rtS K z (psT s.1) (s.2.1.map jnI) (s.2.2.map spI) none none) = [some (.d K), some (.d z), some (.d (.list (s.1.map ptI))), some (.o (.list (s.2.1.map jnI))), some (.o (.list (s.2.2.map spI))), none, none, none, none] := (frz_tree rfl (toD_ps s.1)).trans rfl
  show sRetM _ (frz1 2 (rtS K z (psT s.1) (s.2.1.map jnI) (s.2.2.map spI) none none)) = _
  rw [e2]
  have el := mlc_eq (gi := iItems (eVar 2)) (a := aTup 2 (asCons (aName 7) (asCons (aName 8) asNil))) (ge := mTup (maCons (mFr (eVar 7)) (maCons (mOwn (eCB sortedD (aCons (rVar 8) aNil))) maNil))) (vs := [7, 8]) (ρ := [some (.d K), some (.d z), some (.d (.list (s.1.map ptI))), some (.o (.list (s.2.1.map jnI))), some (.o (.list (s.2.2.map spI))), none, none, none, none]) (xs := s.1) ptI (fun p => ptT (p.1, sortE p.2)) (it_l rfl) (sz (by omega)) fun p _ => ⟨[some (.d K), some (.d z), some (.d (.list (s.1.map ptI))), some (.o (.list (s.2.1.map jnI))), some (.o (.list (s.2.2.map spI))), none, none, some (.d (.str p.1)), some (.d (.list (p.2.map szI)))], rfl, mtup_ok (ma_ok (mfr_ok rfl) (ma_ok (mown_ok ((cb1 rfl).trans (sort_es p.2))) rfl)) (by simp)⟩
  rw [x_sRetM, mtup_ok (ma_ok el (ma_ok (mown_ok ((cb1 rfl).trans (sort_js s.2.1))) (ma_ok rfl rfl))) (by simp)]
  unfold thT sortT psT
  rw [List.map_map]
  rfl
theorem read_ok {ks : Ks} {z : Str} {l : List (Nat × List Str)} {s : TSt} (hk : ks.length ≤ 1000) (hz : d_word_rows [.str z] = .rt (.o (.list (l.map rI)))) (hw : ∀ q ∈ l, RW q.2) (hr : readRows ks l ([], [], []) = .inl s) (h8 : s.1.length ≤ 8) :
    d_read_thing [kD ks, .str z] = .rt (.t (thT (sortT s))) := by
  show (S_read_thing [some (.d (kD ks)), some (.d (.str z)), none, none, none, none, none, none, none]).fr = _
  unfold S_read_thing
  rw [seq_nx (ρ1 := [some (.d (kD ks)), some (.d (.str z)), some (.t (.lst [])), none, none, none, none, none, none]) (by rfl)]
  rw [seq_nx (ρ1 := [some (.d (kD ks)), some (.d (.str z)), some (.t (.lst [])), some (.o (.list [])), none, none, none, none, none]) (by simp)]
  rw [seq_nx (ρ1 := [some (.d (kD ks)), some (.d (.str z)), some (.t (.lst [])), some (.o (.list [])), some (.o (.list [])), none, none, none, none]) (by simp)]
  have rr := read_rows (ks := ks) (.str z) hk l ([], [], []) ⟨by simp, by simp, by simp, by simp, by simp⟩ hw
  rw [hr] at rr
  rw [x_sSeq, x_preK, x_sFor]
  have ei : iItems (eCall 1 d_word_rows (aCons (eVar 1) aNil)) [some (.d (kD ks)), some (.d (.str z)), some (.t (.lst [])), some (.o (.list [])), some (.o (.list [])), none, none, none, none] = .ok (l.map rI) := by
    rw [x_iItems, call1O (a := .str z) (l := l.map rI) rfl hz]
    rfl
  simp only [List.foldl_cons, List.foldl_nil, List.set_cons_succ, List.set_cons_zero]
  rw [ei, x_of_ok]
  refine Eq.trans (congrArg (fun r => SR.fr (SR.seq r _)) rr) ?_
  show (rdE (rtS (kD ks) (.str z) (psT s.1) (s.2.1.map jnI) (s.2.2.map spI) none none)).fr = _
  rw [rd_end _ _ s h8]
  rfl
end
end K05
namespace K05
open PySem L2 DL
noncomputable section
def rd (ks : Ks) (L : List (List Str)) (s s' : TSt) : Prop := ∀ l : List (Nat × List Str), l.map (·.2) = L → readRows ks l s = .inl s'
theorem rd_app {ks : Ks} {L M : List (List Str)} {s s1 s2 : TSt} (h1 : rd ks L s s1) (h2 : rd ks M s1 s2) : rd ks (L ++ M) s s2 := fun l e => by
  obtain ⟨l1, l2, rfl, g1, g2⟩ := List.map_eq_append_iff.mp e
  rw [read_app, h1 l1 g1]
  exact h2 l2 g2
theorem rd_one {ks : Ks} {r : List Str} {s s' : TSt} (h : ∀ a : Int, takeRow ks a r s = .inl s') : rd ks [r] s s' := fun l e => by
  cases l with
  | nil => cases e
  | cons q l =>
    rw [List.map_cons] at e
    injection e with e1 e2
    rw [List.map_eq_nil_iff] at e2
    subst e2
    unfold readRows
    rw [e1, h]
    rfl
structure StepP (ks : Ks) (ps : List Pt) (r : List Str) (ps' : List Pt) : Prop where
  tk : ∀ (a : Int) (js : List Jn) (st : List Sp), takeRow ks a r (ps, js, st) = .inl (ps', js, st)
  hd : (∃ w, r = [wPart, w] ∧ ps'.length = ps.length + 1) ∨ ∃ w n, r = [wSize, w, n] ∧ ps'.length = ps.length
abbrev Ch := List (List Str × List Pt)
def lastP (C : Ch) : List Pt := match C.getLast? with
  | some q => q.2
  | none => []
def CH (ks : Ks) (C : Ch) : Prop := ∀ i q, C[i]? = some q → StepP ks (lastP (C.take i)) q.1 q.2
theorem lastP_snoc (C : Ch) (q : List Str × List Pt) : lastP (C ++ [q]) = q.2 := by
  unfold lastP
  rw [List.getLast?_concat]
theorem CH.snoc {ks : Ks} {C : Ch} {q : List Str × List Pt} (h : CH ks C) (hs : StepP ks (lastP C) q.1 q.2) : CH ks (C ++ [q]) := fun i y hy => by
  by_cases c : i < C.length
  · rw [List.getElem?_append_left c] at hy
    rw [List.take_append_of_le_length (by omega)]
    exact h i y hy
  · rw [List.getElem?_append_right (by omega)] at hy
    have hi : i = C.length := by
      by_cases d : i - C.length = 0
      · omega
      · obtain ⟨k, e⟩ : ∃ k, i - C.length = k + 1 := ⟨i - C.length - 1, by omega⟩
        rw [e] at hy
        cases hy
    rw [hi, Nat.sub_self] at hy
    cases hy
    rw [hi, List.take_left]
    exact hs
theorem step_size {ks : Ks} {pre : List Pt} {p : Pt} {e : Str × Int} (w1 : isW e.1 = true) (w3 : e.2.natAbs < 10 ^ 30) (hne : e.1 ∉ p.2.map (·.1)) (h4 : p.2.length < 4) : StepP ks (pre ++ [p]) (szRow e) (pre ++ [(p.1, p.2 ++ [e])]) := ⟨fun a js st => by
  show takeRow ks a (wSize :: [e.1, tS e.2]) _ = _
  rw [row_size]
  unfold takeSize
  simp only [w1, num_tS _ w3, List.getLast?_concat, if_neg hne, if_neg (show ¬ p.2.length = 4 by omega), List.dropLast_concat], .inr ⟨_, _, rfl, by simp⟩⟩
theorem step_part {ks : Ks} {pre : List Pt} {w : Str} (k1 : isW w = true) (k3 : w ∈ ks.map (·.1)) (h8 : pre.length < 8) : StepP ks pre [wPart, w] (pre ++ [(w, [])]) := ⟨fun a js st => by
  rw [row_part]
  unfold takePart
  simp only [if_pos k1, if_pos k3, if_neg (show ¬ pre.length = 8 by omega)], .inl ⟨_, rfl, by simp⟩⟩
theorem ch_sizes (ks : Ks) (pre : List Pt) : ∀ (es : List (Str × Int)) (p : Pt) (C : Ch), CH ks C → lastP C = pre ++ [p] → ((p.2 ++ es).map (·.1)).Nodup → p.2.length + es.length ≤ 4 → (∀ e ∈ es, isW e.1 = true ∧ Wc e.1 ∧ e.2.natAbs < 10 ^ 30) →
    ∃ C', CH ks C' ∧ C'.map (·.1) = C.map (·.1) ++ es.map szRow ∧ lastP C' = pre ++ [(p.1, p.2 ++ es)]
  | [], p, C, h, hl, _, _, _ => ⟨C, h, by simp, by rw [hl, List.append_nil]⟩
  | e :: es, p, C, h, hl, hn, h4, he => by
    rw [List.length_cons] at h4
    obtain ⟨w1, w2, w3⟩ := he e List.mem_cons_self
    have hne : e.1 ∉ p.2.map (·.1) := by
      rw [List.map_append, List.map_cons, List.nodup_append] at hn
      exact fun z => hn.2.2 _ z _ List.mem_cons_self rfl
    obtain ⟨C', c1, c2, c3⟩ := ch_sizes ks pre es (p.1, p.2 ++ [e]) (C ++ [(szRow e, pre ++ [(p.1, p.2 ++ [e])])]) (h.snoc (by rw [hl]; exact step_size w1 w3 hne (by omega))) (lastP_snoc _ _) (by rw [List.append_assoc]; exact hn) (by simp; omega) fun x hx => he x (List.mem_cons_of_mem _ hx)
    refine ⟨C', c1, ?_, ?_⟩
    · rw [c2, List.map_append, List.append_assoc]
      rfl
    · rw [c3, List.append_assoc]
      rfl
theorem ch_parts (ks : Ks) : ∀ (ps pre : List Pt) (C : Ch), CH ks C → lastP C = pre → pre.length + ps.length ≤ 8 → (∀ p ∈ ps, isW p.1 = true ∧ Wc p.1 ∧ p.1 ∈ ks.map (·.1)) →
    (∀ p ∈ ps, p.2.length ≤ 4 ∧ (p.2.map (·.1)).Nodup ∧ ∀ e ∈ p.2, isW e.1 = true ∧ Wc e.1 ∧ e.2.natAbs < 10 ^ 30) → ∃ C', CH ks C' ∧ C'.map (·.1) = C.map (·.1) ++ ps.flatMap ptRows ∧ lastP C' = pre ++ ps
  | [], pre, C, h, hl, _, _, _ => ⟨C, h, by simp, by rw [hl, List.append_nil]⟩
  | p :: ps, pre, C, h, hl, h8, hk, hs => by
    rw [List.length_cons] at h8
    obtain ⟨k1, k2, k3⟩ := hk p List.mem_cons_self
    obtain ⟨s1, s2, s3⟩ := hs p List.mem_cons_self
    obtain ⟨C1, c1, c2, c3⟩ := ch_sizes ks pre p.2 (p.1, []) (C ++ [([wPart, p.1], pre ++ [(p.1, [])])]) (h.snoc (by rw [hl]; exact step_part k1 k3 (by omega))) (lastP_snoc _ _) s2 (by simpa using s1) s3
    obtain ⟨C2, d1, d2, d3⟩ := ch_parts ks ps (pre ++ [p]) C1 c1 c3 (by simp; omega) (fun x hx => hk x (List.mem_cons_of_mem _ hx)) fun x hx => hs x (List.mem_cons_of_mem _ hx)
    refine ⟨C2, d1, ?_, ?_⟩
    · rw [d2, c2, List.map_append, List.flatMap_cons, List.append_assoc, List.append_assoc]
      rfl
    · rw [d3, List.append_assoc]
      rfl
theorem ch_ok {ks : Ks} {s : TSt} (h : Gd ks s) : ∃ C : Ch, CH ks C ∧ C.map (·.1) = s.1.flatMap ptRows ∧ lastP C = s.1 := by
  obtain ⟨C, c1, c2, c3⟩ := ch_parts ks s.1 [] [] (fun i q hq => by simp at hq) rfl (by simpa using h.t.p) h.pk fun p hp => ⟨h.t.s p hp, h.ps p hp⟩
  exact ⟨C, c1, by simpa using c2, by simpa using c3⟩
theorem step_join {ks : Ks} {a : Int} {ps : List Pt} {js : List Jn} {st : List Sp} {j : Jn} (h8 : ps.length ≤ 8) (h1 : isW j.1 = true) (h3 : 0 ≤ j.2.1 ∧ j.2.1 < (ps.length : Int)) (h4 : 0 ≤ j.2.2 ∧ j.2.2 < (ps.length : Int)) (h5 : j.2.1 ≠ j.2.2) (hne : j ∉ js) (hl : js.length < 16) : takeRow ks a (jnRow j) (ps, js, st) = .inl (ps, js ++ [j], st) := by
  show takeRow ks a (wJoin :: [j.1, tS j.2.1, tS j.2.2]) _ = _
  rw [row_join]
  unfold takeJoin
  have hne : (j.1, j.2.1, j.2.2) ∉ js := hne
  simp only [h1, num_tS _ (nd_lt ps.length _ h3.1 h3.2 (by omega)), num_tS _ (nd_lt ps.length _ h4.1 h4.2 (by omega)), if_neg h5, if_neg (nn_of h3), if_neg (nn_of h4), if_neg hne, if_neg (show ¬ js.length = 16 by omega)]
theorem step_step {ks : Ks} {a : Int} {ps : List Pt} {js : List Jn} {st : List Sp} {t : Sp} (h8 : ps.length ≤ 8) (h1 : isW t.1 = true) (h3 : 0 ≤ t.2 ∧ t.2 < (ps.length : Int)) (hl : st.length < 8) : takeRow ks a (spRow t) (ps, js, st) = .inl (ps, js, st ++ [t]) := by
  show takeRow ks a (wStep :: [t.1, tS t.2]) _ = _
  rw [row_step]
  unfold takeStep
  simp only [h1, num_tS _ (nd_lt ps.length _ h3.1 h3.2 (by omega)), if_neg (nn_of h3), if_neg (show ¬ st.length = 8 by omega)]
end
end K05
namespace K05
open PySem L2 DL PySem.NumText
noncomputable section
def lateR (js : List Jn) (st : List Sp) : List (List Str) := js.map jnRow ++ st.map spRow
def mxS (RW0 : List (List Str)) (m told : Int) (L T : List (List Str)) (v5 : Option Sl) : Rho := [some (.d (.list (RW0.map rowD))), some (.d (.int m)), some (.d (.int told)), some (.o (.list (L.map rowD))), some (.o (.list (T.map rowD))), v5, none]
theorem word2 {x a b : Str} {r : List Str} {ρ : Rho} (h : rVar 5 ρ = .ok (rowD (x :: r))) : bOf (eOp inD (eOp ixD (rVar 5) (eC (.int 0))) (eTup (aCons (eC (.str a)) (aCons (eC (.str b)) aNil)))) ρ = .ok (decide (x ∈ [a, b])) := by
  refine bof ?_
  have e1 : eOp ixD (rVar 5) (eC (.int 0)) ρ = .ok (.str x) := by
    rw [op_ok h (b := .int 0) rfl]
    exact x_ix_l _ 0 _ (by decide) rfl
  rw [op_ok e1 (b := .tuple ([a, b].map PyData.str)) (tup2 rfl rfl), x_in, x_in_strsT]
  rfl
def laterB (r : List Str) : Bool := decide (r.headD eS ∈ [wJoin, wStep])
theorem later_pt {r : List Str} {p : List Pt} (h : r ∈ p.flatMap ptRows) : (∃ w, r = [wPart, w]) ∨ ∃ w n, r = [wSize, w, n] := by
  obtain ⟨q, _, h⟩ := List.mem_flatMap.mp h
  unfold ptRows at h
  rcases List.mem_cons.mp h with e | e
  · exact .inl ⟨_, e⟩
  · obtain ⟨z, _, rfl⟩ := List.mem_map.mp e
    exact .inr ⟨_, _, rfl⟩
theorem later_f (s : TSt) : (rowsOf s).filter laterB = lateR s.2.1 s.2.2 := by
  unfold rowsOf lateR
  have f1 : (s.1.flatMap ptRows).filter laterB = [] := List.filter_eq_nil_iff.mpr fun r hr => by
    rcases later_pt hr with ⟨w, rfl⟩ | ⟨w, n, rfl⟩
    · have : decide (wPart ∈ [wJoin, wStep]) = false := by decide +kernel
      unfold laterB
      show ¬ decide (wPart ∈ [wJoin, wStep]) = true
      rw [this]; exact Bool.false_ne_true
    · have : decide (wSize ∈ [wJoin, wStep]) = false := by decide +kernel
      show ¬ decide (wSize ∈ [wJoin, wStep]) = true
      rw [this]; exact Bool.false_ne_true
  have f2 : (s.2.1.map jnRow).filter laterB = s.2.1.map jnRow := List.filter_eq_self.mpr fun r hr => by
    obtain ⟨j, _, rfl⟩ := List.mem_map.mp hr
    show decide (wJoin ∈ [wJoin, wStep]) = true
    exact decide_eq_true List.mem_cons_self
  have f3 : (s.2.2.map spRow).filter laterB = s.2.2.map spRow := List.filter_eq_self.mpr fun r hr => by
    obtain ⟨j, _, rfl⟩ := List.mem_map.mp hr
    show decide (wStep ∈ [wJoin, wStep]) = true
    exact decide_eq_true (List.mem_cons_of_mem _ List.mem_cons_self)
  rw [List.filter_append, List.filter_append, f1, f2, f3, List.nil_append]
def condW : Rho → R Bool := (bAnd (bOf (eOp gtD (eOp modD (rVar 1) (eC (.int 3))) (eC (.int 0)))) (bAnd (bOf (eOp gtD (eCB lenD (aCons (rVar 4) aNil)) (eC (.int 0)))) (bOf (eOp ltD (eCB maxD (aCons (eFz (oLc (iItems (eSl (eOp ixD (rVar 4) (eC (.int 0))) (pSo (eC (.int 2))) pNo)) (aName 6) gYes (eCB intD (aCons (rVar 6) aNil)) [6])) aNil)) (rVar 2)))))
def bodyW : Rho → SR := sSeq (sAppend 3 (eOp ixD (rVar 4) (eC (.int 0)))) (sSetO 4 (oSl (rVar 4) (pSo (eC (.int 1))) pNo))
theorem int_tS (n : Int) (h : n.natAbs < 10 ^ 30) : intD [.str (tS n)] = .ok (.int n) := by
  have hl := tS_len n h
  refine x_int_s _ _ ?_ (by omega)
  rcases tS_cs n with ⟨m, rfl, e⟩ | ⟨m, h0, rfl, e⟩
  · have vb := PySem.W.KIN.val_back m
    have := intText_digits (x := tS (m : Int)) (by rw [show (tS (m : Int)).cps.toList = _ from e]; exact dig_all m) (by rw [show (tS (m : Int)).cps.toList = _ from e]; exact dig_ne m) (by omega)
    rw [this, show (tS (m : Int)).cps.toList = _ from e, vb]
  · have vb := PySem.W.KIN.val_back m
    rw [intText_neg (x := tS (-(m : Int))) e (dig_all m) (dig_ne m) (by omega), vb]
theorem head_max {RW0 : List (List Str)} {m told : Int} {L T : List (List Str)} {v5 : Option Sl} {x w : Str} {n : Int} {ns : List Int} (h : ∀ k ∈ n :: ns, k.natAbs < 10 ^ 30) (hl : ns.length ≤ 10) :
    bOf (eOp ltD (eCB maxD (aCons (eFz (oLc (iItems (eSl (eOp ixD (rVar 4) (eC (.int 0))) (pSo (eC (.int 2))) pNo)) (aName 6) gYes (eCB intD (aCons (rVar 6) aNil)) [6])) aNil)) (rVar 2)) (mxS RW0 m told L ((x :: w :: (n :: ns).map tS) :: T) v5) = .ok (decide (maxI n ns < told)) := by
  have e0 : eOp ixD (rVar 4) (eC (.int 0)) (mxS RW0 m told L ((x :: w :: (n :: ns).map tS) :: T) v5) = .ok (rowD (x :: w :: (n :: ns).map tS)) := by
    rw [op_ok (a := .list (((x :: w :: (n :: ns).map tS) :: T).map rowD)) rfl (b := .int 0) rfl]
    exact x_ix_l _ 0 _ (by decide) rfl
  have e1 : eFz (oLc (iItems (eSl (eOp ixD (rVar 4) (eC (.int 0))) (pSo (eC (.int 2))) pNo)) (aName 6) gYes (eCB intD (aCons (rVar 6) aNil)) [6]) (mxS RW0 m told L ((x :: w :: (n :: ns).map tS) :: T) v5) = .ok (.list ((n :: ns).map PyData.int)) := by
    refine fz_l (lc_eq (xs := n :: ns) (fun k => .str (tS k)) PyData.int (it_l ?_) (sz (by simp; omega)) fun k hk => ⟨_, rfl, (cb1 rfl).trans (int_tS k (h k hk))⟩)
    refine (sl_b (f := PyData.str) (l := x :: w :: (n :: ns).map tS) (k := 2) e0 rfl (by decide)).trans ?_
    show R.ok (PyData.list (((n :: ns).map tS).map PyData.str)) = _
    rw [List.map_map]
    rfl
  have e2 : eCB maxD (aCons (eFz (oLc (iItems (eSl (eOp ixD (rVar 4) (eC (.int 0))) (pSo (eC (.int 2))) pNo)) (aName 6) gYes (eCB intD (aCons (rVar 6) aNil)) [6])) aNil) (mxS RW0 m told L ((x :: w :: (n :: ns).map tS) :: T) v5) = .ok (.int (maxI n ns)) := by
    rw [cb1 e1]
    show (match asInts ((n :: ns).map PyData.int) with | some (n :: ns) => R.ok (PyData.int (maxI n ns)) | _ => .bad) = _
    rw [asInts_map]
  exact xCmpB (p := fun a b => decide (a < b)) (i := maxI n ns) (j := told) _ e2 rfl rfl
theorem cond_mod {RW0 : List (List Str)} {m told : Int} {L T : List (List Str)} {v5 : Option Sl} : bOf (eOp gtD (eOp modD (rVar 1) (eC (.int 3))) (eC (.int 0))) (mxS RW0 m told L T v5) = .ok (decide (0 < m % 3)) :=
  xCmpB (p := fun a b => decide (b < a)) (i := m % 3) (j := 0) _ (md rfl (by decide)) rfl rfl
theorem cond_len {RW0 : List (List Str)} {m told : Int} {L T : List (List Str)} {v5 : Option Sl} : bOf (eOp gtD (eCB lenD (aCons (rVar 4) aNil)) (eC (.int 0))) (mxS RW0 m told L T v5) = .ok (decide (0 < (T.length : Int))) :=
  xCmpB (p := fun a b => decide (b < a)) (i := (T.length : Nat)) (j := 0) _ (by rw [cb1 (a := .list (T.map rowD)) rfl, x_len_l, List.length_map]) rfl rfl
theorem cond_nil {RW0 : List (List Str)} {m told : Int} {L : List (List Str)} {v5 : Option Sl} : condW (mxS RW0 m told L [] v5) = .ok false :=
  (DL.xAndB (decide (0 < m % 3)) false cond_mod fun _ => DL.xAndB false true cond_len fun q => by cases q).trans (by rw [Bool.and_false])
theorem cond_cons {RW0 : List (List Str)} {m told : Int} {L T : List (List Str)} {v5 : Option Sl} {x w : Str} {n : Int} {ns : List Int} (h : ∀ k ∈ n :: ns, k.natAbs < 10 ^ 30) (hl : ns.length ≤ 10) : condW (mxS RW0 m told L ((x :: w :: (n :: ns).map tS) :: T) v5) = .ok (decide (0 < m % 3) && (true && decide (maxI n ns < told))) :=
  DL.xAndB _ _ cond_mod fun _ => DL.xAndB true _ (cond_len.trans (by rw [decide_eq_true (by rw [List.length_cons]; omega)])) fun _ => head_max h hl
theorem body_ok {RW0 : List (List Str)} {m told : Int} {L T : List (List Str)} {r : List Str} {v5 : Option Sl} (hl : L.length ≤ 1000) : bodyW (mxS RW0 m told L (r :: T) v5) = .nx (mxS RW0 m told (L ++ [r]) T v5) := by
  have e0 : eOp ixD (rVar 4) (eC (.int 0)) (mxS RW0 m told L (r :: T) v5) = .ok (rowD r) := by
    rw [op_ok (a := .list ((r :: T).map rowD)) rfl (b := .int 0) rfl]
    exact x_ix_l _ 0 _ (by decide) rfl
  unfold bodyW
  rw [seq_nx (append_ok (ds := L.map rowD) (x := rowD r) rfl e0 (szl (by rw [List.length_map]; omega)))]
  have e1 : L.map rowD ++ [rowD r] = (L ++ [r]).map rowD := by rw [List.map_append]; rfl
  rw [e1]
  refine (setO_ok (x := .list (T.map rowD)) ?_).trans rfl
  show (R.ok (PyData.list (cutD ((r :: T).map rowD) (some 1) none))) = _
  rw [cut_b (r :: T) rowD 1 (by decide)]
  rfl
structure MI (ks : Ks) (s : TSt) (ps : List Pt) (b : Nat) (L T : List (List Str)) : Prop where
  ex : ∃ js1 js2 st1 st2, s.2.1 = js1 ++ js2 ∧ s.2.2 = st1 ++ st2 ∧ T = lateR js2 st2 ∧ rd ks L ([], [], []) (ps, js1, st1) ∧ L.length + T.length ≤ b
  mem : ∀ r ∈ L, r ∈ rowsOf s
theorem mem_late {s : TSt} {js1 js2 : List Jn} {st1 st2 : List Sp} (h1 : s.2.1 = js1 ++ js2) (h2 : s.2.2 = st1 ++ st2) : ∀ r ∈ lateR js2 st2, r ∈ rowsOf s := by
  intro r hr
  unfold rowsOf
  rcases List.mem_append.mp hr with z | z
  · obtain ⟨j, hj, rfl⟩ := List.mem_map.mp z
    exact List.mem_append_left _ (List.mem_append_right _ (List.mem_map_of_mem (by rw [h1]; exact List.mem_append_right _ hj)))
  · obtain ⟨j, hj, rfl⟩ := List.mem_map.mp z
    exact List.mem_append_right _ (List.mem_map_of_mem (by rw [h2]; exact List.mem_append_right _ hj))
theorem while_ok2 {ks : Ks} {s : TSt} (g : Gd ks s) {ps : List Pt} (h8 : ps.length ≤ s.1.length) {RW0 : List (List Str)} {m : Int} {b : Nat} (hb : b ≤ 500) {v5 : Option Sl} {L T : List (List Str)} (h : MI ks s ps b L T) :
    HS (sWhile 20000000 condW (killS [] bodyW)) (mxS RW0 m (ps.length : Nat) L T v5) (fun ρ => ∃ L' T', MI ks s ps b L' T' ∧ ρ = mxS RW0 m (ps.length : Nat) L' T' v5) (fun _ => False) (fun _ => False) := by
  refine hs_while (fun k ρ => ∃ L' T', MI ks s ps b L' T' ∧ k = T'.length ∧ ρ = mxS RW0 m (ps.length : Nat) L' T' v5) T.length ?_ ⟨L, T, h, rfl, rfl⟩ ?_
  · obtain ⟨_, _, _, _, _, _, _, _, e⟩ := h.ex
    omega
  rintro k _ ⟨L, T, h, rfl, rfl⟩
  obtain ⟨js1, js2, st1, st2, e1, e2, e3, e4, e5⟩ := h.ex
  have gp := g.t.p
  cases js2 with
  | cons j js2 =>
    obtain ⟨g1, g2, g3, g4, g5⟩ := g.jg j (by rw [e1]; simp)
    have n3 := nd_lt s.1.length _ g3.1 g3.2 (by omega)
    have n4 := nd_lt s.1.length _ g4.1 g4.2 (by omega)
    have eT : T = (wJoin :: j.1 :: (j.2.1 :: [j.2.2]).map tS) :: lateR js2 st2 := e3
    refine ⟨_, by rw [eT]; exact cond_cons (fun k hk => by
      rcases List.mem_cons.mp hk with z | z
      · rw [z]; exact n3
      · rw [List.mem_singleton.mp z]; exact n4) (by simp), fun _ => ⟨L, T, h, by rw [eT]⟩, fun hc => ?_⟩
    rw [Bool.and_eq_true, Bool.true_and] at hc
    have hm := of_decide_eq_true hc.2
    have hm : (if j.2.2 > j.2.1 then j.2.2 else j.2.1) < ((ps.length : Nat) : Int) := hm
    have b1 : j.2.1 < (ps.length : Int) ∧ j.2.2 < (ps.length : Int) := by
      split at hm <;> omega
    have hjl : s.2.1.length ≤ 16 := g.t.j
    rw [e1, List.length_append, List.length_cons] at hjl
    have nd := g.jn
    rw [e1, List.nodup_append] at nd
    refine hs_nx (by rw [eT]; exact body_ok (by omega)) ⟨(lateR js2 st2).length, by rw [eT]; simp, L ++ [jnRow j], lateR js2 st2, ⟨⟨js1 ++ [j], js2, st1, st2, by rw [e1]; simp, e2, rfl, rd_app e4 (rd_one fun a => step_join (by omega) g1 ⟨g3.1, b1.1⟩ ⟨g4.1, b1.2⟩ g5 (fun z => nd.2.2 j z j List.mem_cons_self rfl) (by omega)), by rw [eT] at e5; simp at e5 ⊢; omega⟩, fun r hr => ?_⟩, rfl, rfl⟩
    rcases List.mem_append.mp hr with z | z
    · exact h.mem r z
    · rw [List.mem_singleton.mp z]
      exact mem_late e1 e2 _ (List.mem_append_left _ (List.mem_map_of_mem List.mem_cons_self))
  | nil =>
    cases st2 with
    | nil =>
      have eT : T = [] := e3
      exact ⟨false, by rw [eT]; exact cond_nil, fun _ => ⟨L, T, h, rfl⟩, fun hc => by cases hc⟩
    | cons t st2 =>
      obtain ⟨g1, g2, g3⟩ := g.sg t (by rw [e2]; simp)
      have n3 := nd_lt s.1.length _ g3.1 g3.2 (by omega)
      have eT : T = (wStep :: t.1 :: (t.2 :: []).map tS) :: lateR [] st2 := e3
      refine ⟨_, by rw [eT]; exact cond_cons (fun k hk => by
        rw [List.mem_singleton.mp hk]; exact n3) (by simp), fun _ => ⟨L, T, h, by rw [eT]⟩, fun hc => ?_⟩
      rw [Bool.and_eq_true, Bool.true_and] at hc
      have hm := of_decide_eq_true hc.2
      have b1 : t.2 < (ps.length : Int) := hm
      have htl : s.2.2.length ≤ 8 := g.t.t
      rw [e2, List.length_append, List.length_cons] at htl
      refine hs_nx (by rw [eT]; exact body_ok (by omega)) ⟨(lateR [] st2).length, by rw [eT]; simp, L ++ [spRow t], lateR [] st2, ⟨⟨js1, [], st1 ++ [t], st2, e1, by rw [e2]; simp, rfl, rd_app e4 (rd_one fun a => step_step (by omega) g1 ⟨g3.1, b1⟩ (by omega)), by rw [eT] at e5; simp at e5 ⊢; omega⟩, fun r hr => ?_⟩, rfl, rfl⟩
      rcases List.mem_append.mp hr with z | z
      · exact h.mem r z
      · rw [List.mem_singleton.mp z]
        exact mem_late e1 e2 _ (List.mem_append_right _ (List.mem_map_of_mem List.mem_cons_self))
end
end K05
namespace K05
open PySem L2 DL
noncomputable section
theorem lastP_le {ks : Ks} {C : Ch} (h : CH ks C) : ∀ (n i : Nat), i + n = C.length → (lastP (C.take i)).length ≤ (lastP C).length
  | 0, i, e => by
    rw [List.take_of_length_le (by omega)]
    exact Nat.le_refl _
  | n + 1, i, e => by
    have hi : i < C.length := by omega
    have ih := lastP_le h n (i + 1) (by omega)
    have hq : C[i]? = some C[i] := List.getElem?_eq_getElem hi
    have st := h i C[i] hq
    rw [take_snoc hq, lastP_snoc] at ih
    have : (lastP (C.take i)).length ≤ C[i].2.length := by
      rcases st.hd with ⟨_, _, z⟩ | ⟨_, _, _, z⟩ <;> omega
    omega
theorem rows_ne (s : TSt) : ∀ r ∈ rowsOf s, r ≠ [] := by
  intro r hr
  unfold rowsOf at hr
  rcases List.mem_append.mp hr with hr | hr
  · rcases List.mem_append.mp hr with hr | hr
    · rcases later_pt hr with ⟨w, rfl⟩ | ⟨w, n, rfl⟩
      · simp
      · simp
    · obtain ⟨j, _, rfl⟩ := List.mem_map.mp hr
      simp [jnRow]
  · obtain ⟨j, _, rfl⟩ := List.mem_map.mp hr
    simp [spRow]
def mxT1 : Rho → R Bool := bOf (eOp inD (eOp ixD (rVar 5) (eC (.int 0))) (eTup (aCons (eC (.str (PySem.Str.ofString "join"))) (aCons (eC (.str (PySem.Str.ofString "step"))) aNil))))
def mxT2 : Rho → R Bool := bOf (eOp inD (eOp ixD (rVar 5) (eC (.int 0))) (eTup (aCons (eC (.str (PySem.Str.ofString "part"))) (aCons (eC (.str (PySem.Str.ofString "size"))) aNil))))
def mxB : Rho → SR := (sIf mxT2 (sSeq (sAppend 3 (eVar 5)) (sSeq (sSet 2 (eOp addD (rVar 2) (eCB intD (aCons (eOp eqD (eOp ixD (rVar 5) (eC (.int 0))) (eC (.str (PySem.Str.ofString "part")))) aNil)))) (sSeq (preK [] (sWhile 20000000 condW (killS [] bodyW))) (sSet 1 (eOp divD (rVar 1) (eC (.int 2))))))) sNext)
theorem mx_eq : S_law_mixed = sSeq (sSet 2 (eC (.int 0))) (sSeq (sSetO 3 (oLst aNil)) (sSeq (sSetO 4 (oLst aNil)) (sSeq (preK [5] (sFor (iItems (eVar 0)) (aName 5) (killS [5] (sIf mxT1 (sAppend 4 (eVar 5)) sNext)))) (sSeq (preK [5] (sFor (iItems (eVar 0)) (aName 5) (killS [5] mxB))) (sRet (eOp addD (rVar 3) (rVar 4))))))) := rfl
theorem mx_turn {ks : Ks} {s : TSt} (g : Gd ks s) {ps ps' : List Pt} {r : List Str} (st : StepP ks ps r ps') (h8 : ps'.length ≤ s.1.length) (hr : r ∈ rowsOf s) {m : Int} {b : Nat} (hb : b < 500) {L T : List (List Str)} (h : MI ks s ps b L T) :
    HS mxB (mxS (rowsOf s) m (ps.length : Nat) L T (some (.d (rowD r)))) (fun ρ => ∃ m' L' T', MI ks s ps' (b + 1) L' T' ∧ ρ = mxS (rowsOf s) m' (ps'.length : Nat) L' T' (some (.d (rowD r)))) (fun _ => False) (fun _ => False) := by
  obtain ⟨js1, js2, st1, st2, e1, e2, e3, e4, e5⟩ := h.ex
  have m2 : MI ks s ps' (b + 1) (L ++ [r]) T := ⟨⟨js1, js2, st1, st2, e1, e2, e3, rd_app e4 (rd_one fun a => st.tk a js1 st1), by rw [List.length_append, List.length_singleton]; omega⟩, fun y hy => by
    rcases List.mem_append.mp hy with z | z
    · exact h.mem y z
    · rw [List.mem_singleton.mp z]; exact hr⟩
  obtain ⟨x, t, rfl, hx, hd⟩ : ∃ x t, r = x :: t ∧ x ∈ [wPart, wSize] ∧ (ps'.length : Int) = (ps.length : Int) + (if x = wPart then 1 else 0) := by
    rcases st.hd with ⟨w, e, n⟩ | ⟨w, k, e, n⟩
    · exact ⟨wPart, [w], e, List.mem_cons_self, by rw [if_pos rfl]; omega⟩
    · exact ⟨wSize, [w, k], e, List.mem_cons_of_mem _ List.mem_cons_self, by rw [if_neg w_ps.symm]; omega⟩
  unfold mxB
  refine hs_if (c := true) ((word2 (x := x) (r := t) rfl).trans (by rw [show decide (x ∈ [Str.ofString "part", Str.ofString "size"]) = true from decide_eq_true hx])) (fun _ => ?_) (fun q => by cases q)
  refine hs_seq (hs_app (ds := L.map rowD) (x := rowD (x :: t)) rfl rfl (szl (by rw [List.length_map]; omega)) ?_)
  have e6 : L.map rowD ++ [rowD (x :: t)] = (L ++ [x :: t]).map rowD := by rw [List.map_append]; rfl
  rw [e6]
  change HS _ (mxS (rowsOf s) m (ps.length : Nat) (L ++ [x :: t]) T (some (.d (rowD (x :: t))))) _ _ _
  refine hs_seq (hs_set (x := .int (ps'.length : Nat)) ?_ ?_)
  · have i0 : eOp ixD (rVar 5) (eC (.int 0)) (mxS (rowsOf s) m (ps.length : Nat) (L ++ [x :: t]) T (some (.d (rowD (x :: t))))) = .ok (.str x) := by
      rw [op_ok (a := rowD (x :: t)) rfl (b := .int 0) rfl]
      exact x_ix_l _ 0 _ (by decide) rfl
    have i1 : eOp eqD (eOp ixD (rVar 5) (eC (.int 0))) (eC (.str (PySem.Str.ofString "part"))) (mxS (rowsOf s) m (ps.length : Nat) (L ++ [x :: t]) T (some (.d (rowD (x :: t))))) = .ok (.bool (decide (x = wPart))) := by
      rw [op_ok i0 (b := .str wPart) rfl, x_eq, x_eqB_s]
      rfl
    rw [op_ok (a := .int (ps.length : Nat)) rfl ((cb1 i1).trans (x_int_b _)), x_add_i, hd]
    by_cases c : x = wPart
    · rw [if_pos c, decide_eq_true c]; rfl
    · rw [if_neg c, decide_eq_false c]; rfl
  change HS _ (mxS (rowsOf s) m (ps'.length : Nat) (L ++ [x :: t]) T (some (.d (rowD (x :: t))))) _ _ _
  refine hs_seq (hs_mono (hs_pre (while_ok2 g h8 (by omega) m2)) ?_ (fun _ h => h) (fun _ h => h))
  rintro _ ⟨L', T', m3, rfl⟩
  exact hs_set (x := .int (m / 2)) (dv rfl (by decide) (by decide)) ⟨m / 2, L', T', m3, rfl⟩
def mxQ (ks : Ks) (s : TSt) (x : Sl) : Prop := ∃ mx : List (List Str), x = .d (.list (mx.map rowD)) ∧ rd ks mx ([], [], []) s ∧ (∀ r ∈ mx, r ∈ rowsOf s) ∧ mx.length ≤ 100
theorem law_mixed {ks : Ks} {s : TSt} (g : Gd ks s) (hl : (rowsOf s).length ≤ 64) (m : Int) : ∃ mx : List (List Str), d_law_mixed [.list ((rowsOf s).map rowD), .int m] = .rt (.d (.list (mx.map rowD))) ∧ rd ks mx ([], [], []) s ∧ (∀ r ∈ mx, r ∈ rowsOf s) ∧ mx.length ≤ 100 := by
  obtain ⟨x, ex, mx, rfl, h1, h2, h3⟩ : ∃ x, d_law_mixed [.list ((rowsOf s).map rowD), .int m] = .rt x ∧ mxQ ks s x := by
    refine hs_run (n := 7) (s := S_law_mixed) (ds := [.list ((rowsOf s).map rowD), .int m]) (Q := mxQ ks s) ?_
    rw [mx_eq]
    refine hs_seq (hs_set (x := .int 0) rfl ?_)
    refine hs_seq (hs_setO (x := .list []) (by simp -implicitDefEqProofs only [s0, s1, s2, s3, s4, s5, s6, s7, s8, s9, x_max2, x_int_b, x_int_i, x_tuple_l, startD, List.length_cons, List.length_nil, List.map_cons, List.map_nil, List.cons_append, List.nil_append, Nat.reduceAdd, Nat.reduceSub, List.replicate, List.set_cons_zero, List.set_cons_succ, x_wipe_cons, x_wipe_nil, x_eOp, x_eC, x_eCB, x_aCons, x_aNil, x_bind_ok, x_add_i, x_len_s, x_len_l, x_len_t, x_bOf, x_eTup, x_eFz, x_oLst, x_eCall, x_aName, x_aTup, x_asCons, x_asNil, x_mod, x_div, x_bAnd, x_bOr, x_bNot, x_asB, x_sub_i, x_neg_i, x_toE_d, x_toE_o, x_notDict, if_true, if_false, reduceIte, Int.reduceLT, Int.reduceAdd, Int.reduceSub, Int.reduceMul, Int.reduceNeg, Int.reducePow, rVar, eVar, hVar, List.getElem?_cons_zero, List.getElem?_cons_succ]) ?_)
    refine hs_seq (hs_setO (x := .list []) (by simp -implicitDefEqProofs only [s0, s1, s2, s3, s4, s5, s6, s7, s8, s9, x_max2, x_int_b, x_int_i, x_tuple_l, startD, List.length_cons, List.length_nil, List.map_cons, List.map_nil, List.cons_append, List.nil_append, Nat.reduceAdd, Nat.reduceSub, List.replicate, List.set_cons_zero, List.set_cons_succ, x_wipe_cons, x_wipe_nil, x_eOp, x_eC, x_eCB, x_aCons, x_aNil, x_bind_ok, x_add_i, x_len_s, x_len_l, x_len_t, x_bOf, x_eTup, x_eFz, x_oLst, x_eCall, x_aName, x_aTup, x_asCons, x_asNil, x_mod, x_div, x_bAnd, x_bOr, x_bNot, x_asB, x_sub_i, x_neg_i, x_toE_d, x_toE_o, x_notDict, if_true, if_false, reduceIte, Int.reduceLT, Int.reduceAdd, Int.reduceSub, Int.reduceMul, Int.reduceNeg, Int.reducePow, rVar, eVar, hVar, List.getElem?_cons_zero, List.getElem?_cons_succ]) ?_)
    change HS _ (mxS (rowsOf s) m 0 [] [] none) _ _ _
    refine hs_seq (hs_pre ?_)
    change HS _ (mxS (rowsOf s) m 0 [] [] none) _ _ _
    refine hs_forL rowD (rowsOf s) (it_l rfl) (fun i ρ => ρ = mxS (rowsOf s) m 0 [] (((rowsOf s).take i).filter laterB) none) (by rw [List.take_zero]; rfl) ?_ ?_
    · rintro i r _ hi rfl
      have hr := List.mem_of_getElem? hi
      obtain ⟨x, t, rfl⟩ : ∃ x t, r = x :: t := by
        cases r with
        | nil => exact absurd rfl (rows_ne s _ hr)
        | cons x t => exact ⟨x, t, rfl⟩
      refine ⟨mxS (rowsOf s) m 0 [] (((rowsOf s).take i).filter laterB) (some (.d (rowD (x :: t)))), rfl, ?_⟩
      have fl : ((rowsOf s).take (i + 1)).filter laterB = ((rowsOf s).take i).filter laterB ++ if laterB (x :: t) = true then [x :: t] else [] := by
        rw [take_snoc hi, List.filter_append, List.filter_cons]
        rfl
      refine hs_if (c := laterB (x :: t)) (word2 (x := x) (r := t) rfl) (fun c => ?_) (fun c => hs_next ?_)
      · refine hs_app (ds := (((rowsOf s).take i).filter laterB).map rowD) (x := rowD (x :: t)) rfl rfl (szl (by
          have := List.length_filter_le laterB ((rowsOf s).take i)
          rw [List.length_map]
          rw [List.length_take] at this
          omega)) ?_
        rw [fl, if_pos c]
        have e6 : (((rowsOf s).take i).filter laterB).map rowD ++ [rowD (x :: t)] = (((rowsOf s).take i).filter laterB ++ [x :: t]).map rowD := by rw [List.map_append]; rfl
        rw [e6]
        rfl
      · rw [fl, if_neg (by rw [c]; exact Bool.false_ne_true), List.append_nil]
        rfl
    rintro _ rfl
    rw [List.take_of_length_le (Nat.le_refl _), later_f]
    obtain ⟨C, c1, c2, c3⟩ := ch_ok g
    have cl : C.length ≤ (rowsOf s).length := by
      have := congrArg List.length c2
      rw [List.length_map] at this
      unfold rowsOf
      rw [List.length_append, List.length_append]
      omega
    have tl : (lateR s.2.1 s.2.2).length ≤ 24 := by
      have a := g.t.j
      have b := g.t.t
      unfold lateR
      rw [List.length_append, List.length_map, List.length_map]
      omega
    refine hs_seq (hs_pre ?_)
    change HS _ (mxS (rowsOf s) m 0 [] (lateR s.2.1 s.2.2) none) _ _ _
    refine hs_forL rowD (rowsOf s) (it_l rfl) (fun i ρ => i ≤ (rowsOf s).length ∧ ∃ m' L T, MI ks s (lastP (C.take i)) (i + (lateR s.2.1 s.2.2).length) L T ∧ ρ = mxS (rowsOf s) m' ((lastP (C.take i)).length : Nat) L T none) ⟨Nat.zero_le _, m, [], lateR s.2.1 s.2.2, ⟨⟨[], s.2.1, [], s.2.2, rfl, rfl, rfl, fun l e => by
      rw [List.map_eq_nil_iff] at e
      subst e
      rfl, by simp⟩, fun r hr => by cases hr⟩, rfl⟩ ?_ ?_
    · rintro i r _ hi ⟨hil, m', L, T, h, rfl⟩
      have hr := List.mem_of_getElem? hi
      have hi2 := (List.getElem?_eq_some_iff.mp hi).1
      refine ⟨mxS (rowsOf s) m' ((lastP (C.take i)).length : Nat) L T (some (.d (rowD r))), rfl, ?_⟩
      by_cases c : i < C.length
      · have hq : C[i]? = some C[i] := List.getElem?_eq_getElem c
        have st := c1 i C[i] hq
        have er : C[i].1 = r := by
          have a : (C.map (·.1))[i]? = some C[i].1 := by rw [List.getElem?_map, hq]; rfl
          have hla : i < (s.1.flatMap ptRows).length := by rw [← c2, List.length_map]; exact c
          have b : (rowsOf s)[i]? = (s.1.flatMap ptRows)[i]? := by
            unfold rowsOf
            rw [List.append_assoc, List.getElem?_append_left hla]
          rw [c2, ← b, hi] at a
          exact (Option.some.inj a).symm
        rw [er] at st
        have l2 : lastP (C.take (i + 1)) = C[i].2 := by rw [take_snoc hq, lastP_snoc]
        have h8 : C[i].2.length ≤ s.1.length := by
          have := lastP_le c1 (C.length - (i + 1)) (i + 1) (by omega)
          rw [l2, c3] at this
          exact this
        refine hs_mono (mx_turn g st h8 hr (by omega) h) ?_ (fun _ h => h.elim) (fun _ h => h.elim)
        rintro _ ⟨m2, L', T', h', rfl⟩
        refine ⟨by omega, m2, L', T', ?_, ?_⟩
        · rw [l2, show i + 1 + (lateR s.2.1 s.2.2).length = i + (lateR s.2.1 s.2.2).length + 1 by omega]
          exact h'
        · rw [l2]
          rfl
      · have l2 : C.take (i + 1) = C.take i := by rw [List.take_of_length_le (by omega), List.take_of_length_le (by omega)]
        have hB : ∃ x t, r = x :: t ∧ (x = wJoin ∨ x = wStep) := by
          have hla : (s.1.flatMap ptRows).length ≤ i := by rw [← c2, List.length_map]; omega
          unfold rowsOf at hi
          rw [List.append_assoc, List.getElem?_append_right hla] at hi
          rcases List.mem_append.mp (List.mem_of_getElem? hi) with z | z
          · obtain ⟨j, _, rfl⟩ := List.mem_map.mp z
            exact ⟨wJoin, _, rfl, .inl rfl⟩
          · obtain ⟨j, _, rfl⟩ := List.mem_map.mp z
            exact ⟨wStep, _, rfl, .inr rfl⟩
        obtain ⟨x, t, rfl, hx⟩ := hB
        have hx2 : decide (x ∈ [Str.ofString "part", Str.ofString "size"]) = false := by
          rcases hx with e | e <;> rw [e] <;> decide +kernel
        unfold mxB
        refine hs_if (c := false) ((word2 (x := x) (r := t) rfl).trans (by rw [hx2])) (fun q => by cases q) (fun _ => hs_next ?_)
        obtain ⟨⟨js1, js2, st1, st2, e1, e2, e3, e4, e5⟩, hm⟩ := h
        exact ⟨by omega, m', L, T, ⟨⟨js1, js2, st1, st2, e1, e2, e3, by rw [l2]; exact e4, by omega⟩, hm⟩, by rw [l2]; rfl⟩
    · rintro _ ⟨_, m', L, T, h, rfl⟩
      rw [List.take_of_length_le cl, c3] at h
      obtain ⟨⟨js1, js2, st1, st2, e1, e2, e3, e4, e5⟩, hm⟩ := h
      subst e3
      have gp := g.t.p
      refine hs_ret (add2 (l := L) (m := lateR js2 st2) (f := rowD) rfl rfl (by omega)) ⟨L ++ lateR js2 st2, rfl, rd_app e4 ?_, fun r hr => ?_, by rw [List.length_append]; omega⟩
      · unfold lateR
        have a : rd ks (js2.map jnRow) (s.1, js1, st1) (s.1, js1 ++ js2, st1) := fun l hl2 => read_joins ks s.1 st1 gp js2 js1 l hl2 (by rw [← List.length_append, ← e1]; exact g.t.j) (by rw [← e1]; exact g.jn) fun j hj => g.jg j (by rw [e1]; exact List.mem_append_right _ hj)
        have b : rd ks (st2.map spRow) (s.1, js1 ++ js2, st1) (s.1, js1 ++ js2, st1 ++ st2) := fun l hl2 => read_steps ks s.1 (js1 ++ js2) gp st2 st1 l hl2 (by rw [← List.length_append, ← e2]; exact g.t.t) fun t ht => g.sg t (by rw [e2]; exact List.mem_append_right _ ht)
        have := rd_app a b
        rw [← e1, ← e2] at this
        exact this
      · rcases List.mem_append.mp hr with z | z
        · exact hm r z
        · exact mem_late e1 e2 r z
  exact ⟨mx, ex, h1, h2, h3⟩
end
end K05
namespace K05
open PySem L2 DL
noncomputable section
def wlS (r : List Str) : Str := ⟨(wl r).toArray⟩
theorem wlS_tx (r : List Str) : Tx (wlS r) r := rfl
theorem tx_eq {z : Str} {r : List Str} (h : Tx z r) : z = wlS r := h.uniq (wlS_tx r)
def lnD (r : List Str) : PD := .str (wlS r)
theorem wc_tS (n : Int) (h : n.natAbs < 10 ^ 30) : Wc (tS n) := ⟨tS_ch n, (tS_len n h).1, (tS_len n h).2⟩
theorem cat {ga gb : Rho → R PD} {ρ : Rho} {a b : Str} (ha : ga ρ = .ok (.str a)) (hb : gb ρ = .ok (.str b)) (h : a.length + b.length ≤ 1000) : eOp addD ga gb ρ = .ok (.str (a ++ b)) := by
  rw [op_ok ha hb, x_add_s, if_pos (sz (by omega))]
theorem sp1 : (Str.ofString " ").length = 1 := by decide +kernel
section
variable {g1 g2 g3 : Rho → R PD} {ρ : Rho} {x z w u v : Str} (hz : Tp z [x]) (zl : z.length ≤ 10)
include hz zl
theorem t_one (h1 : g1 ρ = .ok (.str w)) (l1 : w.length ≤ 31) : eOp addD (eC (.str z)) g1 ρ = .ok (lnD [x, w]) := by
  rw [cat (x_eC _ _) h1 (by omega)]
  exact congrArg (fun t => R.ok (PyData.str t)) (tx_eq (hz.app (Tx.one w) (by simp) (by simp)))
theorem t_two (h1 : g1 ρ = .ok (.str w)) (h2 : g2 ρ = .ok (.str u)) (l1 : w.length ≤ 31) (l2 : u.length ≤ 31) : eOp addD (eOp addD (eOp addD (eC (.str z)) g1) (eC (.str (Str.ofString " ")))) g2 ρ = .ok (lnD [x, w, u]) := by
  have s1 := sp1
  rw [cat (cat (cat (x_eC _ _) h1 (by omega)) (x_eC _ _) (by rw [len_app]; omega)) h2 (by rw [len_app, len_app]; omega)]
  exact congrArg (fun t => R.ok (PyData.str t)) (tx_eq ((hz.app (Tx.one w) (by simp) (by simp)).sp (Tx.one u) (by simp) (by simp)))
theorem t_three (h1 : g1 ρ = .ok (.str w)) (h2 : g2 ρ = .ok (.str u)) (h3 : g3 ρ = .ok (.str v)) (l1 : w.length ≤ 31) (l2 : u.length ≤ 31) (l3 : v.length ≤ 31) : eOp addD (eOp addD (eOp addD (eOp addD (eOp addD (eC (.str z)) g1) (eC (.str (Str.ofString " ")))) g2) (eC (.str (Str.ofString " ")))) g3 ρ = .ok (lnD [x, w, u, v]) := by
  have s1 := sp1
  rw [cat (cat (cat (cat (cat (x_eC _ _) h1 (by omega)) (x_eC _ _) (by rw [len_app]; omega)) h2 (by rw [len_app, len_app]; omega)) (x_eC _ _) (by rw [len_app, len_app, len_app]; omega)) h3 (by rw [len_app, len_app, len_app, len_app]; omega)]
  exact congrArg (fun t => R.ok (PyData.str t)) (tx_eq (((hz.app (Tx.one w) (by simp) (by simp)).sp (Tx.one u) (by simp) (by simp)).sp (Tx.one v) (by simp) (by simp)))
end
theorem tp_part : Tp (Str.ofString "part ") [wPart] := by unfold Tp; decide +kernel
theorem tp_size : Tp (Str.ofString "size ") [wSize] := by unfold Tp; decide +kernel
theorem tp_join : Tp (Str.ofString "join ") [wJoin] := by unfold Tp; decide +kernel
theorem tp_step : Tp (Str.ofString "step ") [wStep] := by unfold Tp; decide +kernel
theorem lp_part : (Str.ofString "part ").length ≤ 10 := by decide +kernel
theorem lp_size : (Str.ofString "size ").length ≤ 10 := by decide +kernel
theorem lp_join : (Str.ofString "join ").length ≤ 10 := by decide +kernel
theorem lp_step : (Str.ofString "step ").length ≤ 10 := by decide +kernel
theorem snoc_ln {A : List (List Str)} {α : Type} {f : α → List Str} {l : List α} {i : Nat} {x : α} (h : l[i]? = some x) : (A ++ (l.take i).map f).map lnD ++ [lnD (f x)] = (A ++ (l.take (i + 1)).map f).map lnD := by
  rw [take_snoc h, List.map_append (f := f), ← List.append_assoc, List.map_append (l₂ := [x].map f)]
  rfl
theorem pt_len {ps : List Pt} (h8 : ps.length ≤ 8) (h : ∀ p ∈ ps, p.2.length ≤ 4) (n : Nat) : ((ps.take n).flatMap ptRows).length ≤ 40 := by
  have h1 : ∀ p ∈ ps.take n, (ptRows p).length ≤ 5 := fun p hp => by
    have := h p (List.mem_of_mem_take hp)
    unfold ptRows
    simp
    omega
  have h2 : (ps.take n).length ≤ 8 := by simp; omega
  generalize ps.take n = l at h1 h2
  have : ∀ l : List Pt, (∀ p ∈ l, (ptRows p).length ≤ 5) → (l.flatMap ptRows).length ≤ 5 * l.length := by
    intro l
    induction l with
    | nil => intro _; simp
    | cons p l ih =>
      intro h
      have a := h p List.mem_cons_self
      have b := ih fun q hq => h q (List.mem_cons_of_mem _ hq)
      rw [List.flatMap_cons, List.length_append, List.length_cons]
      omega
  have := this l h1
  omega
def trL (s : TSt) (x : Sl) : Prop := x = .o (.list ((rowsOf s).map lnD))
theorem prog_rows {ks : Ks} {s : TSt} (g : Gd ks s) : d_thing_rows [thD s] = .rt (.o (.list ((rowsOf s).map lnD))) := by
  obtain ⟨ps, js, st⟩ := s
  have h8 : ps.length ≤ 8 := g.t.p
  have hj : js.length ≤ 16 := g.t.j
  have ht : st.length ≤ 8 := g.t.t
  have pl := pt_len h8 g.t.s
  obtain ⟨x, ex, rfl⟩ : ∃ x, d_thing_rows [thD (ps, js, st)] = .rt x ∧ trL (ps, js, st) x := by
    refine hs_run (n := 11) (s := S_thing_rows) (ds := [thD (ps, js, st)]) (Q := trL (ps, js, st)) ?_
    unfold S_thing_rows
    refine hs_seq (hs_asg (a := thD (ps, js, st)) (ρ' := [some (.d (thD (ps, js, st))), some (.d (.list (ps.map ptI))), some (.d (.list (js.map jnI))), some (.d (.list (st.map spI))), none, none, none, none, none, none, none]) rfl rfl ?_)
    generalize some (Sl.d (thD (ps, js, st))) = a0
    refine hs_seq (hs_setO (x := .list []) (by simp -implicitDefEqProofs only [s0, s1, s2, s3, s4, s5, s6, s7, s8, s9, x_max2, x_int_b, x_int_i, x_tuple_l, startD, List.length_cons, List.length_nil, List.map_cons, List.map_nil, List.cons_append, List.nil_append, Nat.reduceAdd, Nat.reduceSub, List.replicate, List.set_cons_zero, List.set_cons_succ, x_wipe_cons, x_wipe_nil, x_eOp, x_eC, x_eCB, x_aCons, x_aNil, x_bind_ok, x_add_i, x_len_s, x_len_l, x_len_t, x_bOf, x_eTup, x_eFz, x_oLst, x_eCall, x_aName, x_aTup, x_asCons, x_asNil, x_mod, x_div, x_bAnd, x_bOr, x_bNot, x_asB, x_sub_i, x_neg_i, x_toE_d, x_toE_o, x_notDict, if_true, if_false, reduceIte, Int.reduceLT, Int.reduceAdd, Int.reduceSub, Int.reduceMul, Int.reduceNeg, Int.reducePow, rVar, eVar, hVar, List.getElem?_cons_zero, List.getElem?_cons_succ]) ?_)
    simp -implicitDefEqProofs only [startD, List.length_cons, List.length_nil, List.map_cons, List.map_nil, List.cons_append, List.nil_append, Nat.reduceAdd, Nat.reduceSub, List.replicate, List.set_cons_zero, List.set_cons_succ, List.foldl_cons, List.foldl_nil, x_killD_n, x_killD_c, x_slOf_f, x_slOf_o, x_slOf_t, x_slOf_k]
    refine hs_seq (hs_pre ?_)
    simp -implicitDefEqProofs only [startD, List.length_cons, List.length_nil, List.map_cons, List.map_nil, List.cons_append, List.nil_append, Nat.reduceAdd, Nat.reduceSub, List.replicate, List.set_cons_zero, List.set_cons_succ, List.foldl_cons, List.foldl_nil, x_killD_n, x_killD_c, x_slOf_f, x_slOf_o, x_slOf_t, x_slOf_k]
    refine hs_forL ptI ps (it_l rfl) (fun i ρ => ρ = [a0, some (.d (.list (ps.map ptI))), some (.d (.list (js.map jnI))), some (.d (.list (st.map spI))), some (.o (.list (((ps.take i).flatMap ptRows).map lnD))), none, none, none, none, none, none]) rfl ?_ ?_
    · rintro i p _ hi rfl
      have hp := List.mem_of_getElem? hi
      obtain ⟨k1, k2, k3⟩ := g.pk p hp
      obtain ⟨z1, z2⟩ := g.ps p hp
      have z4 : p.2.length ≤ 4 := g.t.s p hp
      have p1 := pl i
      refine ⟨[a0, some (.d (.list (ps.map ptI))), some (.d (.list (js.map jnI))), some (.d (.list (st.map spI))), some (.o (.list (((ps.take i).flatMap ptRows).map lnD))), some (.d (.str p.1)), some (.d (.list (p.2.map szI))), none, none, none, none], rfl, ?_⟩
      refine hs_seq (hs_app (ds := ((ps.take i).flatMap ptRows).map lnD) (x := lnD [wPart, p.1]) rfl (t_one tp_part lp_part rfl k2.hi) (szl (by rw [List.length_map]; omega)) ?_)
      have e0 : ((ps.take i).flatMap ptRows).map lnD ++ [lnD [wPart, p.1]] = (((ps.take i).flatMap ptRows) ++ [[wPart, p.1]]).map lnD := by rw [List.map_append]; rfl
      rw [e0]
      simp -implicitDefEqProofs only [startD, List.length_cons, List.length_nil, List.map_cons, List.map_nil, List.cons_append, List.nil_append, Nat.reduceAdd, Nat.reduceSub, List.replicate, List.set_cons_zero, List.set_cons_succ, List.foldl_cons, List.foldl_nil, x_killD_n, x_killD_c, x_slOf_f, x_slOf_o, x_slOf_t, x_slOf_k]
      refine hs_pre ?_
      simp -implicitDefEqProofs only [startD, List.length_cons, List.length_nil, List.map_cons, List.map_nil, List.cons_append, List.nil_append, Nat.reduceAdd, Nat.reduceSub, List.replicate, List.set_cons_zero, List.set_cons_succ, List.foldl_cons, List.foldl_nil, x_killD_n, x_killD_c, x_slOf_f, x_slOf_o, x_slOf_t, x_slOf_k]
      refine hs_forL szI p.2 (it_l rfl) (fun k ρ => ρ = [a0, some (.d (.list (ps.map ptI))), some (.d (.list (js.map jnI))), some (.d (.list (st.map spI))), some (.o (.list ((((ps.take i).flatMap ptRows ++ [[wPart, p.1]]) ++ (p.2.take k).map szRow).map lnD))), some (.d (.str p.1)), some (.d (.list (p.2.map szI))), none, none, none, none]) ?_ ?_ ?_
      · rw [List.take_zero, List.map_nil, List.append_nil]
      · rintro k e _ hk rfl
        obtain ⟨e1, e2, e3⟩ := z2 e (List.mem_of_getElem? hk)
        refine ⟨[a0, some (.d (.list (ps.map ptI))), some (.d (.list (js.map jnI))), some (.d (.list (st.map spI))), some (.o (.list ((((ps.take i).flatMap ptRows ++ [[wPart, p.1]]) ++ (p.2.take k).map szRow).map lnD))), some (.d (.str p.1)), some (.d (.list (p.2.map szI))), some (.d (.str e.1)), some (.d (.int e.2)), none, none], rfl, ?_⟩
        refine hs_app (ds := (((ps.take i).flatMap ptRows ++ [[wPart, p.1]]) ++ (p.2.take k).map szRow).map lnD) (x := lnD (szRow e)) rfl (t_two tp_size lp_size rfl ((cb1 rfl).trans (str_tS _ e3)) e2.hi (wc_tS _ e3).hi) (szl (by simp; simp at p1; omega)) ?_
        simp -implicitDefEqProofs only [startD, List.length_cons, List.length_nil, List.map_cons, List.map_nil, List.cons_append, List.nil_append, Nat.reduceAdd, Nat.reduceSub, List.replicate, List.set_cons_zero, List.set_cons_succ, List.foldl_cons, List.foldl_nil, x_killD_n, x_killD_c, x_slOf_f, x_slOf_o, x_slOf_t, x_slOf_k]
        rw [snoc_ln hk]
      · rintro _ rfl
        rw [List.take_of_length_le (Nat.le_refl _), List.append_assoc]
        simp -implicitDefEqProofs only [startD, List.length_cons, List.length_nil, List.map_cons, List.map_nil, List.cons_append, List.nil_append, Nat.reduceAdd, Nat.reduceSub, List.replicate, List.set_cons_zero, List.set_cons_succ, List.foldl_cons, List.foldl_nil, x_killD_n, x_killD_c, x_slOf_f, x_slOf_o, x_slOf_t, x_slOf_k]
        rw [take_snoc hi, List.flatMap_append, List.flatMap_cons, List.flatMap_nil, List.append_nil]
        rfl
    · rintro _ rfl
      rw [List.take_of_length_le (Nat.le_refl _)]
      have p1 := pl ps.length
      rw [List.take_of_length_le (Nat.le_refl _)] at p1
      generalize hA : ps.flatMap ptRows = A at p1
      have sm : ∀ i : Int, 0 ≤ i ∧ i < (ps.length : Int) → i.natAbs < 10 ^ 30 := fun i hi => nd_lt ps.length i hi.1 hi.2 (by omega)
      refine hs_seq (hs_pre ?_)
      simp -implicitDefEqProofs only [startD, List.length_cons, List.length_nil, List.map_cons, List.map_nil, List.cons_append, List.nil_append, Nat.reduceAdd, Nat.reduceSub, List.replicate, List.set_cons_zero, List.set_cons_succ, List.foldl_cons, List.foldl_nil, x_killD_n, x_killD_c, x_slOf_f, x_slOf_o, x_slOf_t, x_slOf_k]
      refine hs_forL jnI js (it_l rfl) (fun i ρ => ρ = [a0, some (.d (.list (ps.map ptI))), some (.d (.list (js.map jnI))), some (.d (.list (st.map spI))), some (.o (.list ((A ++ (js.take i).map jnRow).map lnD))), none, none, none, none, none, none]) ?_ ?_ ?_
      · rw [List.take_zero, List.map_nil, List.append_nil]
      · rintro i j _ hi rfl
        obtain ⟨g1, g2, g3, g4, _⟩ := g.jg j (List.mem_of_getElem? hi)
        refine ⟨[a0, some (.d (.list (ps.map ptI))), some (.d (.list (js.map jnI))), some (.d (.list (st.map spI))), some (.o (.list ((A ++ (js.take i).map jnRow).map lnD))), none, none, some (.d (.str j.1)), none, some (.d (.int j.2.1)), some (.d (.int j.2.2))], rfl, ?_⟩
        refine hs_app (ds := (A ++ (js.take i).map jnRow).map lnD) (x := lnD (jnRow j)) rfl (t_three tp_join lp_join rfl ((cb1 rfl).trans (str_tS _ (sm _ g3))) ((cb1 rfl).trans (str_tS _ (sm _ g4))) g2.hi (wc_tS _ (sm _ g3)).hi (wc_tS _ (sm _ g4)).hi) (szl (by simp; omega)) ?_
        simp -implicitDefEqProofs only [startD, List.length_cons, List.length_nil, List.map_cons, List.map_nil, List.cons_append, List.nil_append, Nat.reduceAdd, Nat.reduceSub, List.replicate, List.set_cons_zero, List.set_cons_succ, List.foldl_cons, List.foldl_nil, x_killD_n, x_killD_c, x_slOf_f, x_slOf_o, x_slOf_t, x_slOf_k]
        rw [snoc_ln hi]
      · rintro _ rfl
        rw [List.take_of_length_le (Nat.le_refl _)]
        generalize hB : A ++ js.map jnRow = B
        have bl : B.length ≤ 56 := by rw [← hB]; simp; omega
        refine hs_seq (hs_pre ?_)
        simp -implicitDefEqProofs only [startD, List.length_cons, List.length_nil, List.map_cons, List.map_nil, List.cons_append, List.nil_append, Nat.reduceAdd, Nat.reduceSub, List.replicate, List.set_cons_zero, List.set_cons_succ, List.foldl_cons, List.foldl_nil, x_killD_n, x_killD_c, x_slOf_f, x_slOf_o, x_slOf_t, x_slOf_k]
        refine hs_forL spI st (it_l rfl) (fun i ρ => ρ = [a0, some (.d (.list (ps.map ptI))), some (.d (.list (js.map jnI))), some (.d (.list (st.map spI))), some (.o (.list ((B ++ (st.take i).map spRow).map lnD))), none, none, none, none, none, none]) ?_ ?_ ?_
        · rw [List.take_zero, List.map_nil, List.append_nil]
        · rintro i t _ hi rfl
          obtain ⟨g1, g2, g3⟩ := g.sg t (List.mem_of_getElem? hi)
          refine ⟨[a0, some (.d (.list (ps.map ptI))), some (.d (.list (js.map jnI))), some (.d (.list (st.map spI))), some (.o (.list ((B ++ (st.take i).map spRow).map lnD))), none, none, some (.d (.str t.1)), some (.d (.int t.2)), none, none], rfl, ?_⟩
          refine hs_app (ds := (B ++ (st.take i).map spRow).map lnD) (x := lnD (spRow t)) rfl (t_two tp_step lp_step rfl ((cb1 rfl).trans (str_tS _ (sm _ g3))) g2.hi (wc_tS _ (sm _ g3)).hi) (szl (by simp; omega)) ?_
          simp -implicitDefEqProofs only [startD, List.length_cons, List.length_nil, List.map_cons, List.map_nil, List.cons_append, List.nil_append, Nat.reduceAdd, Nat.reduceSub, List.replicate, List.set_cons_zero, List.set_cons_succ, List.foldl_cons, List.foldl_nil, x_killD_n, x_killD_c, x_slOf_f, x_slOf_o, x_slOf_t, x_slOf_k]
          rw [snoc_ln hi]
        · rintro _ rfl
          rw [List.take_of_length_le (Nat.le_refl _)]
          refine hs_retV rfl ?_
          unfold trL rowsOf
          rw [hA, hB]
  exact ex
end
end K05
namespace K05
open PySem L2 DL
noncomputable section
theorem ln_strs (rows : List (List Str)) : rows.map lnD = (rows.map wlS).map PyData.str := by
  rw [List.map_map]
  rfl
theorem ln_len {ks : Ks} {s : TSt} (g : Gd ks s) : ∀ r ∈ rowsOf s, (wlS r).length ≤ 160 := by
  intro r hr
  have sm : ∀ i : Int, 0 ≤ i ∧ i < (s.1.length : Int) → Wc (tS i) := fun i hi => wc_tS i (nd_lt s.1.length i hi.1 hi.2 (by have := g.t.p; omega))
  have tx := wlS_tx r
  have cP : Wc wPart := ⟨by decide +kernel, by decide +kernel, by decide +kernel⟩
  have cS : Wc wSize := ⟨by decide +kernel, by decide +kernel, by decide +kernel⟩
  have cJ : Wc wJoin := ⟨by decide +kernel, by decide +kernel, by decide +kernel⟩
  have cT : Wc wStep := ⟨by decide +kernel, by decide +kernel, by decide +kernel⟩
  have c0 : ∀ w ∈ ([] : List Str), Wc w := fun w h => by cases h
  have cc : ∀ {x : Str} {r : List Str}, Wc x → (∀ w ∈ r, Wc w) → ∀ w ∈ x :: r, Wc w := fun hx hr w hw => (List.mem_cons.mp hw).elim (fun e => e ▸ hx) (hr w)
  unfold rowsOf at hr
  rcases List.mem_append.mp hr with hr | hr
  · rcases List.mem_append.mp hr with hr | hr
    · obtain ⟨p, hp, hr⟩ := List.mem_flatMap.mp hr
      unfold ptRows at hr
      rcases List.mem_cons.mp hr with e | e
      · subst e
        have := tx.len (cc cP (cc (g.pk p hp).2.1 c0))
        simp at this; omega
      · obtain ⟨z, hz, rfl⟩ := List.mem_map.mp e
        obtain ⟨a, b, c⟩ := (g.ps p hp).2 z hz
        have := tx.len (cc cS (cc b (cc (wc_tS _ c) c0)))
        have e : (szRow z).length = 3 := rfl
        omega
    · obtain ⟨j, hj, rfl⟩ := List.mem_map.mp hr
      obtain ⟨a, b, c, d, _⟩ := g.jg j hj
      have := tx.len (cc cJ (cc b (cc (sm _ c) (cc (sm _ d) c0))))
      have e : (jnRow j).length = 4 := rfl
      omega
  · obtain ⟨t, ht, rfl⟩ := List.mem_map.mp hr
    obtain ⟨a, b, c⟩ := g.sg t ht
    have := tx.len (cc cT (cc b (cc (sm _ c) c0)))
    have e : (spRow t).length = 3 := rfl
    omega
theorem rows_len {ks : Ks} {s : TSt} (h : Gd ks s) : (rowsOf s).length ≤ 64 := by
  have a := pt_len h.t.p h.t.s s.1.length
  rw [List.take_of_length_le (Nat.le_refl _)] at a
  have c := h.t.j
  have d := h.t.t
  unfold rowsOf
  rw [List.length_append, List.length_append, List.length_map, List.length_map]
  omega
def txt (s : TSt) : Str := Txt.join nl ((rowsOf s).map wlS)
theorem join_ok {ks : Ks} {s : TSt} (g : Gd ks s) {gl : Rho → R PD} {ρ : Rho} (h : gl ρ = .ok (.list ((rowsOf s).map lnD))) : eM1 joinD (eC (.str (PySem.Str.ofString "\n"))) gl ρ = .ok (.str (txt s)) := by
  have sl := sum_le ((rowsOf s).map wlS) 160 fun z hz => by
    obtain ⟨r, hr, rfl⟩ := List.mem_map.mp hz
    exact ln_len g r hr
  have rl := rows_len g
  have nlen : nl.length = 1 := by decide +kernel
  show strOf (.str nl) ((gl ρ).bind fun b => joinD (.str nl) [b]) = _
  rw [h, x_strOf, x_bind_ok, ln_strs]
  exact x_join nl _ (by rw [nlen]; rw [List.length_map] at sl ⊢; omega)
theorem write_ok {ks : Ks} {s : TSt} (g : Gd ks s) : d_write_thing [thD s] = .rt (.d (.str (txt s))) := by
  refine run_eq (n := 1) (s := S_write_thing) (ds := [thD s]) ?_
  unfold S_write_thing
  exact hs_ret (x := .str (txt s)) (join_ok g (call1O rfl (prog_rows g))) rfl
theorem vget {es : List (Str × Int)} {gd gy : Rho → R PD} {ρ : Rho} {e : Str × Int} (hd : gd ρ = .ok (encD (es.map szK))) (hy : gy ρ = .ok (.str e.1)) (hn : (es.map (·.1)).Nodup) (he : e ∈ es) : eDVget gd gy ρ = .ok (.int e.2) := by
  obtain ⟨k, hk⟩ := List.getElem?_of_mem he
  unfold eDVget
  rw [hd, x_bind_ok]
  show (R.ok (es.map szK)).bind _ = _
  rw [x_bind_ok, hy, x_bind_ok]
  show (match valD (es.map szK) (.inr e.1) with | some d => R.ok d | none => .bad) = _
  rw [valD_at es k e hn hk]
theorem names_of {es : List (Str × Int)} {g : Rho → R PD} {ρ : Rho} (h : g ρ = .ok (encD (es.map szK))) (hn : (es.map (·.1)).Nodup) (hl : es.length ≤ 4) : iItems (eFz (eCB sortStrD (aCons (eFz (oDVlist g)) aNil))) ρ = .ok ((sortE es).map fun e => PyData.str e.1) := by
  have e1 : eFz (oDVlist g) ρ = .ok (.list ((es.map (·.1)).map PyData.str)) := by
    refine fz_l ?_
    unfold oDVlist
    rw [h, x_bind_ok]
    show R.ok (PyData.list ((es.map szK).map (·.1))) = _
    rw [List.map_map, List.map_map]
    rfl
  have e2 : eCB sortStrD (aCons (eFz (oDVlist g)) aNil) ρ = .ok (.list ((sortSt (es.map (·.1))).map PyData.str)) := by
    rw [cb1 e1]
    show (match asStrs ((es.map (·.1)).map PyData.str) with | some ws => if ws.length < 64 then R.ok (PyData.list ((sortSt ws).map PyData.str)) else .bad | none => .bad) = _
    rw [asStrs_map]
    dsimp only
    rw [if_pos (by rw [List.length_map]; omega)]
  rw [it_l (fz_l e2), names_sorted, sortN_E hn, List.map_map]
  rfl
def sortP (p : Pt) : Pt := (p.1, sortE p.2)
def lwQ (s : TSt) (x : Sl) : Prop := x = .d (.str (txt (sortT s)))
theorem law_written {ks : Ks} {s : TSt} (g : Gd ks s) (hj0 : s.2.1.length ≤ 16) : d_law_written [.list (s.1.map lpI), .list (s.2.1.map jnI), .list (s.2.2.map spI)] = .rt (.d (.str (txt (sortT s)))) := by
  obtain ⟨x, ex, rfl⟩ : ∃ x, d_law_written [.list (s.1.map lpI), .list (s.2.1.map jnI), .list (s.2.2.map spI)] = .rt x ∧ lwQ s x := by
    have G := g.sorted
    obtain ⟨ps, js, st⟩ := s
    have h8 : ps.length ≤ 8 := g.t.p
    have ht : st.length ≤ 8 := g.t.t
    have pl := pt_len (ps := ps.map sortP) (by rw [List.length_map]; exact h8) G.t.s
    refine hs_run (n := 9) (s := S_law_written) (ds := [.list (ps.map lpI), .list (js.map jnI), .list (st.map spI)]) (Q := lwQ (ps, js, st)) ?_
    unfold S_law_written
    generalize hP : some (Sl.d (.list (ps.map lpI))) = P
    refine hs_seq (hs_setO (x := .list []) (by simp -implicitDefEqProofs only [s0, s1, s2, s3, s4, s5, s6, s7, s8, s9, x_max2, x_int_b, x_int_i, x_tuple_l, startD, List.length_cons, List.length_nil, List.map_cons, List.map_nil, List.cons_append, List.nil_append, Nat.reduceAdd, Nat.reduceSub, List.replicate, List.set_cons_zero, List.set_cons_succ, x_wipe_cons, x_wipe_nil, x_eOp, x_eC, x_eCB, x_aCons, x_aNil, x_bind_ok, x_add_i, x_len_s, x_len_l, x_len_t, x_bOf, x_eTup, x_eFz, x_oLst, x_eCall, x_aName, x_aTup, x_asCons, x_asNil, x_mod, x_div, x_bAnd, x_bOr, x_bNot, x_asB, x_sub_i, x_neg_i, x_toE_d, x_toE_o, x_notDict, if_true, if_false, reduceIte, Int.reduceLT, Int.reduceAdd, Int.reduceSub, Int.reduceMul, Int.reduceNeg, Int.reducePow, rVar, eVar, hVar, List.getElem?_cons_zero, List.getElem?_cons_succ]) ?_)
    refine hs_seq (hs_pre ?_)
    change HS _ [some (Sl.d (.list (ps.map lpI))), some (.d (.list (js.map jnI))), some (.d (.list (st.map spI))), some (.o (.list [])), none, none, none, none, none] _ _ _
    refine hs_forL lpI ps (it_l rfl) (fun i ρ => ρ = [some (Sl.d (.list (ps.map lpI))), some (.d (.list (js.map jnI))), some (.d (.list (st.map spI))), some (.o (.list ((((ps.map sortP).take i).flatMap ptRows).map lnD))), none, none, none, none, none]) rfl ?_ ?_
    · rintro i p _ hi rfl
      have hp := List.mem_of_getElem? hi
      obtain ⟨k1, k2, k3⟩ := g.pk p hp
      obtain ⟨z1, z2⟩ := g.ps p hp
      have z4 : p.2.length ≤ 4 := g.t.s p hp
      have zl : (sortE p.2).length = p.2.length := (sortE_p p.2).length_eq
      have p1 := pl i
      have hi2 : (ps.map sortP)[i]? = some (sortP p) := by rw [List.getElem?_map, hi]; rfl
      generalize hA : ((ps.map sortP).take i).flatMap ptRows = A at p1
      refine ⟨[some (Sl.d (.list (ps.map lpI))), some (.d (.list (js.map jnI))), some (.d (.list (st.map spI))), some (.o (.list (A.map lnD))), some (.d (.str p.1)), some (.d (encD (p.2.map szK))), none, none, none], by rw [← hA]; rfl, ?_⟩
      refine hs_seq (hs_app (ds := A.map lnD) (x := lnD [wPart, p.1]) rfl (t_one tp_part lp_part rfl k2.hi) (szl (by rw [List.length_map]; omega)) ?_)
      have e0 : A.map lnD ++ [lnD [wPart, p.1]] = (A ++ [[wPart, p.1]]).map lnD := by rw [List.map_append]; rfl
      rw [e0]
      refine hs_pre ?_
      change HS _ [some (Sl.d (.list (ps.map lpI))), some (.d (.list (js.map jnI))), some (.d (.list (st.map spI))), some (.o (.list ((A ++ [[wPart, p.1]]).map lnD))), some (.d (.str p.1)), some (.d (encD (p.2.map szK))), none, none, none] _ _ _
      refine hs_forL (fun e : Str × Int => PyData.str e.1) (sortE p.2) (names_of rfl z1 z4) (fun k ρ => ρ = [some (Sl.d (.list (ps.map lpI))), some (.d (.list (js.map jnI))), some (.d (.list (st.map spI))), some (.o (.list (((A ++ [[wPart, p.1]]) ++ ((sortE p.2).take k).map szRow).map lnD))), some (.d (.str p.1)), some (.d (encD (p.2.map szK))), none, none, none]) ?_ ?_ ?_
      · rw [List.take_zero, List.map_nil, List.append_nil]
      · rintro k e _ hk rfl
        have hm := (sortE_p p.2).mem_iff.mp (List.mem_of_getElem? hk)
        obtain ⟨e1, e2, e3⟩ := z2 e hm
        refine ⟨[some (Sl.d (.list (ps.map lpI))), some (.d (.list (js.map jnI))), some (.d (.list (st.map spI))), some (.o (.list (((A ++ [[wPart, p.1]]) ++ ((sortE p.2).take k).map szRow).map lnD))), some (.d (.str p.1)), some (.d (encD (p.2.map szK))), some (.d (.str e.1)), none, none], rfl, ?_⟩
        refine hs_app (ds := ((A ++ [[wPart, p.1]]) ++ ((sortE p.2).take k).map szRow).map lnD) (x := lnD (szRow e)) rfl (t_two tp_size lp_size rfl ((cb1 (vget rfl rfl z1 hm)).trans (str_tS _ e3)) e2.hi (wc_tS _ e3).hi) (szl (by simp; omega)) ?_
        rw [snoc_ln hk]
        rfl
      · rintro _ rfl
        rw [List.take_of_length_le (Nat.le_refl _), List.append_assoc, take_snoc hi2, List.flatMap_append, List.flatMap_cons, List.flatMap_nil, List.append_nil, hA]
        rfl
    · rintro _ rfl
      have plen : (ps.map sortP).length = ps.length := List.length_map ..
      rw [← plen, List.take_of_length_le (Nat.le_refl _)]
      have p1 := pl (ps.map sortP).length
      rw [List.take_of_length_le (Nat.le_refl _)] at p1
      generalize hA : (ps.map sortP).flatMap ptRows = A at p1
      have sm : ∀ i : Int, 0 ≤ i ∧ i < (ps.length : Int) → i.natAbs < 10 ^ 30 := fun i hi => nd_lt ps.length i hi.1 hi.2 (by omega)
      have jl : (sortJ js).length ≤ 16 := by rw [(sortJ_p js).length_eq]; exact hj0
      refine hs_seq (hs_pre ?_)
      change HS _ [some (Sl.d (.list (ps.map lpI))), some (.d (.list (js.map jnI))), some (.d (.list (st.map spI))), some (.o (.list (A.map lnD))), none, none, none, none, none] _ _ _
      refine hs_forL jnI (sortJ js) (it_l (fz_l ((cb1 rfl).trans (sort_js js)))) (fun i ρ => ρ = [some (Sl.d (.list (ps.map lpI))), some (.d (.list (js.map jnI))), some (.d (.list (st.map spI))), some (.o (.list ((A ++ ((sortJ js).take i).map jnRow).map lnD))), none, none, none, none, none]) ?_ ?_ ?_
      · rw [List.take_zero, List.map_nil, List.append_nil]
      · rintro i j _ hi rfl
        obtain ⟨g1, g2, g3, g4, _⟩ := g.jg j ((sortJ_p js).mem_iff.mp (List.mem_of_getElem? hi))
        refine ⟨[some (Sl.d (.list (ps.map lpI))), some (.d (.list (js.map jnI))), some (.d (.list (st.map spI))), some (.o (.list ((A ++ ((sortJ js).take i).map jnRow).map lnD))), none, none, some (.d (.str j.1)), some (.d (.int j.2.1)), some (.d (.int j.2.2))], rfl, ?_⟩
        refine hs_app (ds := (A ++ ((sortJ js).take i).map jnRow).map lnD) (x := lnD (jnRow j)) rfl (t_three tp_join lp_join rfl ((cb1 rfl).trans (str_tS _ (sm _ g3))) ((cb1 rfl).trans (str_tS _ (sm _ g4))) g2.hi (wc_tS _ (sm _ g3)).hi (wc_tS _ (sm _ g4)).hi) (szl (by simp; omega)) ?_
        rw [snoc_ln hi]
        rfl
      · rintro _ rfl
        rw [List.take_of_length_le (Nat.le_refl _)]
        generalize hB : A ++ (sortJ js).map jnRow = B
        have bl : B.length ≤ 56 := by rw [← hB]; simp; omega
        refine hs_seq (hs_pre ?_)
        change HS _ [some (Sl.d (.list (ps.map lpI))), some (.d (.list (js.map jnI))), some (.d (.list (st.map spI))), some (.o (.list (B.map lnD))), none, none, none, none, none] _ _ _
        refine hs_forL spI st (it_l rfl) (fun i ρ => ρ = [some (Sl.d (.list (ps.map lpI))), some (.d (.list (js.map jnI))), some (.d (.list (st.map spI))), some (.o (.list ((B ++ (st.take i).map spRow).map lnD))), none, none, none, none, none]) ?_ ?_ ?_
        · rw [List.take_zero, List.map_nil, List.append_nil]
        · rintro i t _ hi rfl
          obtain ⟨g1, g2, g3⟩ := g.sg t (List.mem_of_getElem? hi)
          refine ⟨[some (Sl.d (.list (ps.map lpI))), some (.d (.list (js.map jnI))), some (.d (.list (st.map spI))), some (.o (.list ((B ++ (st.take i).map spRow).map lnD))), none, none, some (.d (.str t.1)), some (.d (.int t.2)), none], rfl, ?_⟩
          refine hs_app (ds := (B ++ (st.take i).map spRow).map lnD) (x := lnD (spRow t)) rfl (t_two tp_step lp_step rfl ((cb1 rfl).trans (str_tS _ (sm _ g3))) g2.hi (wc_tS _ (sm _ g3)).hi) (szl (by simp; omega)) ?_
          rw [snoc_ln hi]
          rfl
        · rintro _ rfl
          rw [List.take_of_length_le (Nat.le_refl _)]
          refine hs_ret (x := .str (txt (sortT (ps, js, st)))) (join_ok G ?_) rfl
          show R.ok (PyData.list ((B ++ st.map spRow).map lnD)) = _
          rw [← hB, ← hA]
          rfl
  exact ex
def ldQ (s : TSt) (x : Sl) : Prop := x = .d (thD (sortT s))
theorem law_due {ks : Ks} {s : TSt} (g : Gd ks s) : d_law_due [.list (s.1.map lpI), .list (s.2.1.map jnI), .list (s.2.2.map spI)] = .rt (.d (thD (sortT s))) := by
  obtain ⟨x, ex, rfl⟩ : ∃ x, d_law_due [.list (s.1.map lpI), .list (s.2.1.map jnI), .list (s.2.2.map spI)] = .rt x ∧ ldQ s x := by
    obtain ⟨ps, js, st⟩ := s
    have h8 : ps.length ≤ 8 := g.t.p
    refine hs_run (n := 7) (s := S_law_due) (ds := [.list (ps.map lpI), .list (js.map jnI), .list (st.map spI)]) (Q := ldQ (ps, js, st)) ?_
    unfold S_law_due
    refine hs_seq (hs_setO (x := .list []) (by simp -implicitDefEqProofs only [s0, s1, s2, s3, s4, s5, s6, s7, s8, s9, x_max2, x_int_b, x_int_i, x_tuple_l, startD, List.length_cons, List.length_nil, List.map_cons, List.map_nil, List.cons_append, List.nil_append, Nat.reduceAdd, Nat.reduceSub, List.replicate, List.set_cons_zero, List.set_cons_succ, x_wipe_cons, x_wipe_nil, x_eOp, x_eC, x_eCB, x_aCons, x_aNil, x_bind_ok, x_add_i, x_len_s, x_len_l, x_len_t, x_bOf, x_eTup, x_eFz, x_oLst, x_eCall, x_aName, x_aTup, x_asCons, x_asNil, x_mod, x_div, x_bAnd, x_bOr, x_bNot, x_asB, x_sub_i, x_neg_i, x_toE_d, x_toE_o, x_notDict, if_true, if_false, reduceIte, Int.reduceLT, Int.reduceAdd, Int.reduceSub, Int.reduceMul, Int.reduceNeg, Int.reducePow, rVar, eVar, hVar, List.getElem?_cons_zero, List.getElem?_cons_succ]) ?_)
    refine hs_seq (hs_pre ?_)
    change HS _ [some (Sl.d (.list (ps.map lpI))), some (.d (.list (js.map jnI))), some (.d (.list (st.map spI))), some (.o (.list [])), none, none, none] _ _ _
    refine hs_forL lpI ps (it_l rfl) (fun i ρ => ρ = [some (Sl.d (.list (ps.map lpI))), some (.d (.list (js.map jnI))), some (.d (.list (st.map spI))), some (.o (.list ((ps.take i).map fun p => ptI (sortP p)))), none, none, none]) rfl ?_ ?_
    · rintro i p _ hi rfl
      have hp := List.mem_of_getElem? hi
      obtain ⟨z1, z2⟩ := g.ps p hp
      have z4 : p.2.length ≤ 4 := g.t.s p hp
      have zl : (sortE p.2).length = p.2.length := (sortE_p p.2).length_eq
      refine ⟨[some (Sl.d (.list (ps.map lpI))), some (.d (.list (js.map jnI))), some (.d (.list (st.map spI))), some (.o (.list ((ps.take i).map fun p => ptI (sortP p)))), some (.d (.str p.1)), some (.d (encD (p.2.map szK))), none], rfl, ?_⟩
      have el := lc_eq (gi := iItems (eFz (eCB sortStrD (aCons (eFz (oDVlist (eVar 5))) aNil)))) (a := aName 6) (ge := eTup (aCons (eVar 6) (aCons (eDVget (eVar 5) (rVar 6)) aNil))) (vs := [6]) (ρ := [some (Sl.d (.list (ps.map lpI))), some (.d (.list (js.map jnI))), some (.d (.list (st.map spI))), some (.o (.list ((ps.take i).map fun p => ptI (sortP p)))), some (.d (.str p.1)), some (.d (encD (p.2.map szK))), none]) (xs := sortE p.2) (fun e => PyData.str e.1) szI (names_of rfl z1 z4) (sz (by omega)) fun e he => ⟨_, rfl, tup2 rfl (vget rfl rfl z1 ((sortE_p p.2).mem_iff.mp he))⟩
      refine hs_app (ds := (ps.take i).map fun p => ptI (sortP p)) (x := ptI (sortP p)) rfl (tup2 rfl (fz_l el)) (szl (by rw [List.length_map, List.length_take]; omega)) ?_
      rw [take_snoc hi, List.map_append]
      rfl
    · rintro _ rfl
      rw [List.take_of_length_le (Nat.le_refl _)]
      refine hs_frz ?_
      simp only [List.foldl_cons, List.foldl_nil]
      rw [frz_o (l := ps.map fun p => ptI (sortP p)) rfl]
      refine hs_ret (x := thD (sortT (ps, js, st))) ?_ rfl
      refine (tup3 (a := .list (ps.map fun p => ptI (sortP p))) rfl (fz_l ((cb1 rfl).trans (sort_js js))) (fz_l (cb1 (a := .list (st.map spI)) rfl))).trans ?_
      unfold thD sortT
      rw [List.map_map]
      rfl
  exact ex
theorem isi_tup {g : Rho → R PD} {ρ : Rho} {l : List PD} (h : g ρ = .ok (.tuple l)) : eIsi "tuple" g ρ = .ok (.bool true) := by
  rw [x_eIsi, h, x_bind_ok]
  rfl
theorem isi_lst {g : Rho → R PD} {ρ : Rho} {l : List PD} (h : g ρ = .ok (.list l)) : eIsi "list" g ρ = .ok (.bool true) := by
  rw [x_eIsi, h, x_bind_ok]
  rfl
theorem all_t (n : Nat) : (List.replicate n true).all id = true := by
  rw [List.all_eq_true]
  intro x hx
  exact (List.mem_replicate.mp hx).2
theorem law_formed {ks : Ks} {s : TSt} (g : Gd ks s) : d_law_formed [thD s] = .rt (.d (.bool true)) := by
  obtain ⟨ps, js, st⟩ := s
  have h8 : ps.length ≤ 8 := g.t.p
  have hj : js.length ≤ 16 := g.t.j
  have ht : st.length ≤ 8 := g.t.t
  refine run_eq (n := 4) (s := S_law_formed) (ds := [thD (ps, js, st)]) ?_
  unfold S_law_formed
  change HS _ [some (.d (thD (ps, js, st))), none, none, none] _ _ _
  have c1 := lc_eq (gi := iItems (eVar 0)) (a := aName 2) (ge := eIsi "list" (rVar 2)) (vs := [2]) (ρ := [some (.d (thD (ps, js, st))), none, none, none]) (xs := [ps.map ptI, js.map jnI, st.map spI]) PyData.list (fun _ => PyData.bool true) (it_t rfl) (sz (by simp)) fun l _ => ⟨[some (.d (thD (ps, js, st))), none, some (.d (.list l)), none], rfl, isi_lst rfl⟩
  have c2 : eCB allD (aCons (eFz (oLc (iItems (eVar 0)) (aName 2) gYes (eIsi "list" (rVar 2)) [2])) aNil) [some (.d (thD (ps, js, st))), none, none, none] = .ok (.bool true) := by
    rw [cb1 (fz_l c1)]
    exact x_all [true, true, true]
  have c3 : bOf (eOp neD (eCB lenD (aCons (rVar 0) aNil)) (eC (.int 3))) [some (.d (thD (ps, js, st))), none, none, none] = .ok false := by
    refine (neiB (a := 3) (b := 3) ?_ rfl).trans rfl
    rw [cb1 (a := thD (ps, js, st)) rfl]
    rfl
  refine hs_seq (hs_if (c := !true || (false || !true)) (DL.xOrB _ _ (xNotB true (bof (isi_tup rfl))) (DL.xOrB _ _ c3 (xNotB true (bof c2)))) (fun q => by cases q) (fun _ => hs_next ?_))
  refine hs_seq (hs_pre ?_)
  change HS _ [some (.d (thD (ps, js, st))), none, none, none] _ _ _
  refine hs_forL ptI ps (it_l ((op_ok (a := thD (ps, js, st)) rfl (b := .int 0) rfl).trans (x_ix_t _ 0 _ (by decide) rfl))) (fun i ρ => ρ = [some (.d (thD (ps, js, st))), none, none, none]) rfl ?_ ?_
  · rintro i p _ hi rfl
    refine ⟨[some (.d (thD (ps, js, st))), some (.d (ptI p)), none, none], rfl, ?_⟩
    exact hs_if (c := !true || !true) (DL.xOrB _ _ (xNotB true (bof (isi_tup rfl))) (xNotB true (bof (isi_lst ((op_ok (a := ptI p) rfl (b := .int 1) rfl).trans (x_ix_t _ 1 _ (by decide) rfl)))))) (fun q => by cases q) (fun _ => hs_next rfl)
  · rintro _ rfl
    refine hs_ret (x := .bool true) ?_ rfl
    have e1 : eOp addD (eOp ixD (rVar 0) (eC (.int 1))) (eOp ixD (rVar 0) (eC (.int 2))) [some (.d (thD (ps, js, st))), none, none, none] = .ok (.list (js.map jnI ++ st.map spI)) := by
      rw [op_ok ((op_ok (a := thD (ps, js, st)) rfl (b := .int 1) rfl).trans (x_ix_t _ 1 _ (by decide) rfl)) ((op_ok (a := thD (ps, js, st)) rfl (b := .int 2) rfl).trans (x_ix_t _ 2 _ (by decide) rfl)), x_add_l, if_pos (sz (by simp; omega))]
    have al : ∀ d ∈ js.map jnI ++ st.map spI, ∃ l, d = .tuple l := fun d hd => by
      rcases List.mem_append.mp hd with z | z
      · obtain ⟨j, _, rfl⟩ := List.mem_map.mp z; exact ⟨_, rfl⟩
      · obtain ⟨j, _, rfl⟩ := List.mem_map.mp z; exact ⟨_, rfl⟩
    have c4 := lc_eq (gi := iItems (eOp addD (eOp ixD (rVar 0) (eC (.int 1))) (eOp ixD (rVar 0) (eC (.int 2))))) (a := aName 3) (ge := eIsi "tuple" (rVar 3)) (vs := [3]) (ρ := [some (.d (thD (ps, js, st))), none, none, none]) (xs := js.map jnI ++ st.map spI) (fun d => d) (fun _ => PyData.bool true) (by rw [it_l e1, List.map_id']) (sz (by simp; omega)) fun d hd => by
      obtain ⟨l, rfl⟩ := al d hd
      exact ⟨[some (.d (thD (ps, js, st))), none, none, some (.d (.tuple l))], rfl, isi_tup rfl⟩
    rw [cb1 (fz_l c4)]
    have e2 : (js.map jnI ++ st.map spI).map (fun _ => PyData.bool true) = (List.replicate (js.map jnI ++ st.map spI).length true).map PyData.bool := by
      rw [List.map_replicate, List.map_const']
    rw [e2, x_all, all_t]
end
end K05
namespace K05
open PySem L2 DL
noncomputable section
theorem call3E {f : List PD → FR} {ga gb gc : Rho → R PD} {ρ : Rho} {a b c x : PD} (ha : ga ρ = .ok a) (hb : gb ρ = .ok b) (hc : gc ρ = .ok c) (h : (f [a, b, c]).toE = .ok x) : eCall 3 f (aCons ga (aCons gb (aCons gc aNil))) ρ = .ok x := by
  simp only [x_eCall, x_aCons, x_aNil, ha, hb, hc, x_bind_ok]
  show (if 3 = 3 then (f [a, b, c]).toE else R.bad) = _
  rw [if_pos rfl, h]
theorem call2E {f : List PD → FR} {ga gb : Rho → R PD} {ρ : Rho} {a b x : PD} (ha : ga ρ = .ok a) (hb : gb ρ = .ok b) (h : (f [a, b]).toE = .ok x) : eCall 2 f (aCons ga (aCons gb aNil)) ρ = .ok x := by
  simp only [x_eCall, x_aCons, x_aNil, ha, hb, x_bind_ok]
  show (if 2 = 2 then (f [a, b]).toE else R.bad) = _
  rw [if_pos rfl, h]
theorem toE_o (l : List PD) : (FR.rt (.o (.list l))).toE = .ok (.list l) := x_toD_l l
theorem cut_ab (l : List Int) (a b : Option Int) : ∃ c : List Int, cutD (l.map PyData.int) a b = c.map PyData.int ∧ c.length ≤ HT.sIx l.length l.length b - HT.sIx l.length 0 a := by
  unfold cutD
  rw [List.length_map]
  refine ⟨(l.drop (HT.sIx l.length 0 a)).take (HT.sIx l.length l.length b - HT.sIx l.length 0 a), by rw [List.map_take, List.map_drop], ?_⟩
  rw [List.length_take]
  exact Nat.min_le_left _ _
theorem cut_n (l : List Int) (i : Nat) (n : Int) (h0 : 0 ≤ n) (hi : i ≤ l.length) : ∃ c : List Int, cutD (l.map PyData.int) (some (i : Nat)) (some ((i : Int) + n)) = c.map PyData.int ∧ c.length ≤ n.toNat := by
  obtain ⟨c, e, hc⟩ := cut_ab l (some (i : Nat)) (some ((i : Int) + n))
  have e1 : HT.sIx l.length 0 (some (i : Int)) = min i l.length := HT.sIx_nat _ _ i
  have e2 : HT.sIx l.length l.length (some ((i : Int) + n)) = min (i + n.toNat) l.length := by
    rw [show (i : Int) + n = ((i + n.toNat : Nat) : Int) by omega]
    exact HT.sIx_nat _ _ _
  rw [e1, e2] at hc
  exact ⟨c, e, by omega⟩
theorem gd_of {ks : Ks} {s0 : Int} (h0 : 0 ≤ s0) (hn : ∀ p ∈ ks, ∃ j, p.1 = nm s0 j) {s : TSt} (po : PO ks s.1) (jo : JO s.1.length s.2.1) (so : SO s.1.length s.2.2) (h1 : s.1.length ≤ 8) (h2 : s.2.1.length ≤ 16) (h3 : s.2.2.length ≤ 8) : Gd ks s := by
  refine ⟨⟨h1, fun p hp => (po.z p hp).1, h2, fun j hj => strOk_wc (jo.g j hj).1.c, h3⟩, fun p hp => ?_, fun p hp => ?_, jo.nd, fun j hj => ?_, fun t ht => ?_⟩
  · have := po.k p hp
    obtain ⟨q, hq, e⟩ := List.mem_map.mp this
    obtain ⟨j, ej⟩ := hn q hq
    have g : GN p.1 := by rw [← e, ej]; exact gn_nm _ _ h0
    exact ⟨g.w, g.c, this⟩
  · obtain ⟨_, ge⟩ := po.z p hp
    exact ⟨ge.nd, fun e he => ⟨(ge.g e he).1.w, (ge.g e he).1.c, (ge.g e he).2⟩⟩
  · obtain ⟨g, a, b, c⟩ := jo.g j hj
    exact ⟨g.w, g.c, a, b, c⟩
  · obtain ⟨g, a, b⟩ := so t ht
    exact ⟨g.w, g.c, a, b⟩
theorem wcs {x : Str} {r : List Str} (hx : Wc x) (hr : ∀ w ∈ r, Wc w) : ∀ w ∈ x :: r, Wc w := fun w hw => (List.mem_cons.mp hw).elim (fun e => e ▸ hx) (hr w)
theorem wc0 : ∀ w ∈ ([] : List Str), Wc w := fun w h => by cases h
theorem wc_part : Wc wPart := ⟨by decide +kernel, by decide +kernel, by decide +kernel⟩
theorem wc_size : Wc wSize := ⟨by decide +kernel, by decide +kernel, by decide +kernel⟩
theorem wc_join : Wc wJoin := ⟨by decide +kernel, by decide +kernel, by decide +kernel⟩
theorem wc_step : Wc wStep := ⟨by decide +kernel, by decide +kernel, by decide +kernel⟩
theorem rows_ok {ks : Ks} {s : TSt} (h : Gd ks s) : ∀ r ∈ rowsOf s, r ≠ [] ∧ (∀ w ∈ r, Wc w) ∧ r.length ≤ 5 := by
  intro r hr
  have sm : ∀ i : Int, 0 ≤ i ∧ i < (s.1.length : Int) → Wc (tS i) := fun i hi => wc_tS i (nd_lt s.1.length i hi.1 hi.2 (by have := h.t.p; omega))
  unfold rowsOf at hr
  rcases List.mem_append.mp hr with hr | hr
  · rcases List.mem_append.mp hr with hr | hr
    · obtain ⟨p, hp, hr⟩ := List.mem_flatMap.mp hr
      unfold ptRows at hr
      rcases List.mem_cons.mp hr with e | e
      · rw [e]
        exact ⟨by simp, wcs wc_part (wcs (h.pk p hp).2.1 wc0), by simp⟩
      · obtain ⟨z, hz, rfl⟩ := List.mem_map.mp e
        obtain ⟨a, b, c⟩ := (h.ps p hp).2 z hz
        exact ⟨by simp [szRow], wcs wc_size (wcs b (wcs (wc_tS _ c) wc0)), by simp [szRow]⟩
    · obtain ⟨j, hj, rfl⟩ := List.mem_map.mp hr
      obtain ⟨a, b, c, d, _⟩ := h.jg j hj
      exact ⟨by simp [jnRow], wcs wc_join (wcs b (wcs (sm _ c) (wcs (sm _ d) wc0))), by simp [jnRow]⟩
  · obtain ⟨t, ht, rfl⟩ := List.mem_map.mp hr
    obtain ⟨a, b, c⟩ := h.sg t ht
    exact ⟨by simp [spRow], wcs wc_step (wcs b (wcs (sm _ c) wc0)), by simp [spRow]⟩
theorem read_text {ks : Ks} {s : TSt} (g : Gd ks s) (hk : ks.length ≤ 1000) {mx : List (List Str)} (h1 : rd ks mx ([], [], []) s) (h2 : ∀ r ∈ mx, r ∈ rowsOf s) {z : Str} {ls : List Str} (es : Txt.split z nl = ls) (hz : z.length ≤ 200000) (hls : ls.length ≤ 1000) (hwd : ∀ l ∈ ls, l.length ≤ 1000 ∧ ∀ w ∈ Txt.words l, PyData.strOk w = true) (hrw : (keepW (enumP 0 ls)).map (·.2) = mx) :
    d_read_thing [kD ks, .str z] = .rt (.t (thT (sortT s))) := by
  have wr := word_rows z ls es hz hwd hls
  refine read_ok hk wr (fun q hq => ?_) (h1 _ hrw) g.t.p
  have hm := List.mem_map_of_mem (f := (·.2)) hq
  rw [hrw] at hm
  obtain ⟨a, b, c⟩ := rows_ok g _ (h2 _ hm)
  exact ⟨a, fun w hw => ⟨by have := (b w hw).hi; omega, strOk_wc (b w hw)⟩⟩
theorem read_txt {ks : Ks} {s : TSt} (g : Gd ks s) (hk : ks.length ≤ 1000) : d_read_thing [kD ks, .str (txt s)] = .rt (.t (thT (sortT s))) := by
  have ro := rows_ok g
  have wds : ∀ r ∈ rowsOf s, Txt.words (wlS r) = r := fun r hr => (wlS_tx r).words (ro r hr).1 (ro r hr).2.1
  have t : TL2 ((rowsOf s).map wlS) (rowsOf s) := by
    refine ⟨?_, fun l hl => ?_⟩
    · rw [List.map_map]
      have e : (rowsOf s).map (Txt.words ∘ wlS) = rowsOf s := by
        have := List.map_congr_left (l := rowsOf s) (f := Txt.words ∘ wlS) (g := id) fun r hr => wds r hr
        rw [this, List.map_id]
      rw [e]
      exact List.filter_eq_self.mpr fun r hr => decide_eq_true (ro r hr).1
    · obtain ⟨r, hr, rfl⟩ := List.mem_map.mp hl
      exact ⟨wl_no (ro r hr).2.1, by have := ln_len g r hr; omega⟩
  obtain ⟨ls, es, t2, hls⟩ := t.split
  have rl := rows_len g
  have sl := sum_le ((rowsOf s).map wlS) 300 fun z hz => (t.ok z hz).2
  have nlen : nl.length = 1 := by decide +kernel
  rw [List.length_map] at sl hls
  have jl : (txt s).length ≤ 200000 := by
    have := join_le nl ((rowsOf s).map wlS)
    rw [nlen, List.length_map] at this
    unfold txt
    omega
  refine read_text g hk (fun l hl => read_good g hl) (fun r hr => hr) es jl (by omega) (fun l hl => ⟨by have := (t2.ok l hl).2; omega, fun w hw => ?_⟩) (by rw [keepW_rows]; exact t2.w)
  have m : Txt.words l ∈ rowsOf s := by
    rw [← t2.w]
    exact List.mem_filter.mpr ⟨List.mem_map_of_mem hl, decide_eq_true fun q => by rw [q] at hw; cases hw⟩
  exact strOk_wc ((ro _ m).2.1 w hw)
theorem sh_th {ks : Ks} {s : TSt} (g : Gd ks s) : Sh 5 (thD s) := by
  have so : ∀ {z : Str}, Wc z → okS z := fun h => strOk_wc h
  refine sh_t (sh_c (sh_l (sh_m fun p hp => ?_)) (sh_c (sh_l (sh_m fun j hj => ?_)) (sh_c (sh_l (sh_m fun t ht => ?_)) sh_0)))
  · exact sh_t (sh_c (sh_s (so (g.pk p hp).2.1)) (sh_c (sh_l (sh_m fun e he => sh_t (sh_c (sh_s (so ((g.ps p hp).2 e he).2.1)) (sh_c sh_i sh_0)))) sh_0))
  · exact sh_t (sh_c (sh_s (so (g.jg j hj).2.1)) (sh_c sh_i (sh_c sh_i sh_0)))
  · exact sh_t (sh_c (sh_s (so (g.sg t ht).2.1)) (sh_c sh_i sh_0))
theorem eq_th {ks : Ks} {s : TSt} (g : Gd ks s) : eqB (thD s) (thD s) = .ok true := by
  have h := sh_th g
  unfold thD at h ⊢
  rw [eqB_tt h h (by decide)]
  have c := h.c
  rw [eqvAll_refl _ (by simpa [PyData.canLay0] using c)]
theorem ne_th {ks : Ks} {s : TSt} (g : Gd ks s) {ga gb : Rho → R PD} {ρ : Rho} (ha : ga ρ = .ok (thD s)) (hb : gb ρ = .ok (thD s)) : bOf (eOp neD ga gb) ρ = .ok false := by
  refine bof ?_
  rw [op_ok ha hb, x_ne, eq_th g]
  rfl
def zzI : Tv := .tup [.fr (.str (Str.ofString "zz")), .own (.list [])]
def sp1B : Rho → SR := sAppendM 11 [] (mTup (maCons (mFr (eC (.str (PySem.Str.ofString "zz")))) (maCons (mOwn (oLst aNil)) maNil)))
theorem sp1_ok {ρ : Rho} {ts : List Tv} (h : ρ[11]? = some (some (.t (.lst ts)))) (hl : ts.length ≤ 1000) : sp1B ρ = .nx (ρ.set 11 (some (.t (.lst (ts ++ [zzI]))))) := by
  have e : oLst aNil ρ = .ok (.list []) := lsO rfl (by simp)
  unfold sp1B sAppendM lstAt
  rw [h]
  dsimp only
  rw [mtup_ok (ma_ok (mfr_ok (x_eC _ _)) (ma_ok (mown_ok e) rfl)) (by simp), x_of_ok, if_pos (szl (by omega))]
  rfl
def lwS (a0 a1 a2 a3 a4 a5 a6 a7 a9 a10 : PD) (v8 v11 v12 : Option Sl) : Rho := [some (.d a0), some (.d a1), some (.d a2), some (.d a3), some (.d a4), some (.d a5), some (.d a6), some (.d a7), v8, some (.d a9), some (.d a10), v11, v12]
theorem spoil1 {a0 a1 a2 a3 a4 a5 a6 a7 a9 a10 : PD} {s : TSt} (h1 : s.1.length ≤ 8) (h2 : s.2.1.length ≤ 16) (h3 : s.2.2.length ≤ 8) :
    sForT 8 11 (killS [] sp1B) (lwS a0 a1 a2 a3 a4 a5 a6 a7 a9 a10 (some (.t (thT s))) none none) = .nx (lwS a0 a1 a2 a3 a4 a5 a6 a7 a9 a10 (some (.t (.tup [.lst (s.1.map ptT ++ [zzI]), .lst ((s.2.1.map jnI).map Tv.fr ++ [zzI]), .lst ((s.2.2.map spI).map Tv.fr ++ [zzI])]))) none none) := by
  have st : ∀ ts : List Tv, ts.length ≤ 1000 → killS [] sp1B (lwS a0 a1 a2 a3 a4 a5 a6 a7 a9 a10 none (some (.t (.lst ts))) none) = .nx (lwS a0 a1 a2 a3 a4 a5 a6 a7 a9 a10 none (some (.t (.lst (ts ++ [zzI])))) none) := fun ts hl => by
    rw [x_killS, sp1_ok rfl hl]
    rfl
  have go : ∀ (dn rest : List Tv) (t : Tv) (ts : List Tv) (fin : List Tv → Rho → SR), loosen t = .lst ts → ts.length ≤ 1000 → forTp 11 (killS [] sp1B) fin dn (t :: rest) (lwS a0 a1 a2 a3 a4 a5 a6 a7 a9 a10 none none none) = forTp 11 (killS [] sp1B) fin (dn ++ [.lst (ts ++ [zzI])]) rest (lwS a0 a1 a2 a3 a4 a5 a6 a7 a9 a10 none none none) := fun dn rest t ts fin e hl => by
    rw [forTp, e]
    show (match killS [] sp1B (lwS a0 a1 a2 a3 a4 a5 a6 a7 a9 a10 none (some (.t (.lst ts))) none) with
      | SR.nx ρ2 => if noB ρ2 = true then (match ρ2[11]? with
        | some (some (Sl.t t')) => forTp 11 (killS [] sp1B) fin (dn ++ [t']) rest (ρ2.set 11 none)
        | _ => SR.bad) else SR.bad
      | SR.exc c => SR.exc c
      | _ => SR.bad) = _
    rw [st ts hl]
    rfl
  show forTp 11 (killS [] sp1B) _ [] [psT s.1, .own (.list (s.2.1.map jnI)), .own (.list (s.2.2.map spI))] (lwS a0 a1 a2 a3 a4 a5 a6 a7 a9 a10 none none none) = _
  rw [go [] _ _ (s.1.map ptT) _ rfl (by rw [List.length_map]; omega), go _ _ _ ((s.2.1.map jnI).map Tv.fr) _ rfl (by rw [List.length_map, List.length_map]; omega), go _ _ _ ((s.2.2.map spI).map Tv.fr) _ rfl (by rw [List.length_map, List.length_map]; omega)]
  rfl
def sp2B : Rho → SR := sAppendP 12 (pIx 12 pVar (eC (.int 1))) (eTup (aCons (eC (.str (PySem.Str.ofString "zz"))) (aCons (eC (.int 1)) aNil)))
theorem spoil2a {a0 a1 a2 a3 a4 a5 a6 a7 a9 a10 : PD} : ∀ ts : List Tv, (∀ t ∈ ts, ∃ w ds, t = .tup [.fr w, .own (.list ds)] ∧ ds.length ≤ 1000) →
    forTr 12 (killS [12] sp2B) ts (lwS a0 a1 a2 a3 a4 a5 a6 a7 a9 a10 none none none) = .nx (lwS a0 a1 a2 a3 a4 a5 a6 a7 a9 a10 none none none)
  | [], _ => rfl
  | t :: ts, h => by
    obtain ⟨w, ds, rfl, hl⟩ := h t List.mem_cons_self
    have e : sp2B (lwS a0 a1 a2 a3 a4 a5 a6 a7 a9 a10 none none (some (.t (.tup [.fr w, .own (.list ds)])))) = .nx (lwS a0 a1 a2 a3 a4 a5 a6 a7 a9 a10 none none (some (.t (.tup [.fr w, .own (.list (ds ++ [.tuple [.str (Str.ofString "zz"), .int 1]]))])))) := by
      refine (appP_ok (x := .tup [.fr w, .own (.list ds)]) (ks := [1]) (ds := ds) (d := .tuple [.str (Str.ofString "zz"), .int 1]) rfl (p_ix (ks := []) (n := 1) (x := .tup [.fr w, .own (.list ds)]) (t := .tup [.fr w, .own (.list ds)]) (j := 1) rfl rfl rfl rfl rfl rfl) rfl (tup2 rfl rfl) (szl (by omega))).trans ?_
      rfl
    rw [forTr]
    show (match killS [12] sp2B (lwS a0 a1 a2 a3 a4 a5 a6 a7 a9 a10 none none (some (.t (.tup [.fr w, .own (.list ds)])))) with
      | .nx ρ2 => if noB ρ2 = true then forTr 12 (killS [12] sp2B) ts ρ2 else .bad
      | .ct ρ2 => if noB ρ2 = true then forTr 12 (killS [12] sp2B) ts ρ2 else .bad
      | .bk ρ2 => if noB ρ2 = true then .nx ρ2 else .bad
      | .rt s => .rt s
      | .exc c => .exc c
      | .bad => .bad) = _
    rw [x_killS, e]
    exact spoil2a ts fun t ht => h t (List.mem_cons_of_mem _ ht)
theorem spoil2 {a0 a1 a2 a3 a4 a5 a6 a7 a9 a10 : PD} {s : TSt} (h : ∀ p ∈ s.1, p.2.length ≤ 4) {J T : Tv} :
    sForM 12 [8] (mAtM 8 (pIx 8 pVar (eC (.int 0)))) (killS [12] sp2B) (lwS a0 a1 a2 a3 a4 a5 a6 a7 a9 a10 (some (.t (.tup [.lst (s.1.map ptT ++ [zzI]), J, T]))) none none) = .nx (lwS a0 a1 a2 a3 a4 a5 a6 a7 a9 a10 none none none) := by
  have e : mAtM 8 (pIx 8 pVar (eC (.int 0))) (lwS a0 a1 a2 a3 a4 a5 a6 a7 a9 a10 (some (.t (.tup [.lst (s.1.map ptT ++ [zzI]), J, T]))) none none) = .ok (.lst (s.1.map ptT ++ [zzI])) := by
    have p := p_ix (i := 8) (gp := pVar) (gi := eC (.int 0)) (ρ := lwS a0 a1 a2 a3 a4 a5 a6 a7 a9 a10 (some (.t (.tup [.lst (s.1.map ptT ++ [zzI]), J, T]))) none none) (ks := []) (n := 0) (x := .tup [.lst (s.1.map ptT ++ [zzI]), J, T]) (t := .tup [.lst (s.1.map ptT ++ [zzI]), J, T]) (j := 0) rfl rfl rfl rfl rfl rfl
    show ((pIx 8 pVar (eC (.int 0)) (lwS a0 a1 a2 a3 a4 a5 a6 a7 a9 a10 (some (.t (.tup [.lst (s.1.map ptT ++ [zzI]), J, T]))) none none)).bind fun ks => (match (Tv.tup [.lst (s.1.map ptT ++ [zzI]), J, T]).at ks with
      | some t => R.ok t
      | none => .bad)) = _
    rw [p, x_bind_ok]
    rfl
  show SR.of (mAtM 8 (pIx 8 pVar (eC (.int 0))) _) _ = _
  rw [e, x_of_ok]
  exact spoil2a _ fun t ht => by
    rcases List.mem_append.mp ht with z | z
    · obtain ⟨p, hp, rfl⟩ := List.mem_map.mp z
      exact ⟨_, p.2.map szI, rfl, by rw [List.length_map]; have := h p hp; omega⟩
    · rw [List.mem_singleton.mp z]
      exact ⟨_, [], rfl, by simp⟩
end
end K05
namespace K05
open PySem L2 DL
noncomputable section
theorem callH1 {f : List PD → FR} {g : Rho → R PD} {ρ : Rho} {a x : PD} (h : g ρ = .ok a) (e : f [a] = .rt (.d x)) (i : immO x = .ok x) : eCallH 1 f (aCons g aNil) ρ = .ok x := by
  simp only [x_eCallH, x_aCons, x_aNil, h, x_bind_ok]
  show (if 1 = 1 then (f [a]).toE.bind immO else R.bad) = _
  rw [if_pos rfl, e]
  show (R.ok x).bind immO = _
  rw [x_bind_ok, i]
theorem toE_t {t : Tv} {x : PD} (h : t.toD = .ok x) : (FR.rt (.t t)).toE = .ok x := h
theorem hv_t {i : Nat} {ρ : Rho} {t : Tv} {x : PD} (h : ρ[i]? = some (some (.t t))) (e : t.toD = .ok x) : hVar i ρ = .ok x := by
  unfold hVar
  rw [h]
  exact e
theorem eq_thB {ks : Ks} {s : TSt} (g : Gd ks s) {ga gb : Rho → R PD} {ρ : Rho} (ha : ga ρ = .ok (thD s)) (hb : gb ρ = .ok (thD s)) : eOp eqD ga gb ρ = .ok (.bool true) := by
  rw [op_ok ha hb, x_eq, eq_th g]
  rfl
theorem ne_sS {ga gb : Rho → R PD} {ρ : Rho} {z : Str} (ha : ga ρ = .ok (.str z)) (hb : gb ρ = .ok (.str z)) : bOf (eOp neD ga gb) ρ = .ok false := by
  refine bof ?_
  rw [op_ok ha hb, x_ne, x_eqB_s, x_bind_ok, decide_eq_true rfl]
  rfl
theorem lst_kD {ks : Ks} {g : Rho → R PD} {ρ : Rho} (h : g ρ = .ok (kD ks)) : eFz (eCB listD (aCons g aNil)) ρ = .ok (kD ks) := by
  unfold kD at h ⊢
  exact fz_l (cb1 h)
theorem law_ok : ∀ ns : List Int, ns.length ≤ 63 → d_law [.list (ns.map PyData.int)] = .rt (.d (.bool true)) := by
  intro ns h
  obtain ⟨s0, h0, h1, es⟩ := law_salt ns h
  refine run_eq (n := 13) (s := S_law) (ds := [.list (ns.map PyData.int)]) ?_
  unfold S_law
  refine hs_seq (hs_set (x := .int s0) (call2 rfl rfl es) ?_)
  simp -implicitDefEqProofs only [startD, List.length_cons, List.length_nil, List.map_cons, List.map_nil, List.cons_append, List.nil_append, Nat.reduceAdd, Nat.reduceSub, List.replicate, List.set_cons_zero, List.set_cons_succ, List.foldl_cons, List.foldl_nil, x_killD_n, x_killD_c, x_slOf_f, x_slOf_o, x_slOf_t, x_slOf_k]
  obtain ⟨cells, hc, hcl⟩ : ∃ cells : List Int, cells = ns ++ [s0 / 3, s0 / 5, s0 / 7, s0 / 11] ∧ 4 ≤ cells.length ∧ cells.length ≤ 100 := ⟨_, rfl, by simp, by simp; omega⟩
  have q1 : eSl (rVar 0) pNo (pSo (eC (.int 63))) [some (.d (.list (ns.map PyData.int))), some (.d (.int s0)), none, none, none, none, none, none, none, none, none, none, none] = .ok (.list (ns.map PyData.int)) := by
    show R.ok (PyData.list (cutD (ns.map PyData.int) none (some 63))) = _
    rw [cut63 ns h]
  refine hs_seq (hs_set (x := .list (cells.map PyData.int)) ?_ ?_)
  · rw [hc]
    exact add2 (f := PyData.int) q1 (m := [s0 / 3, s0 / 5, s0 / 7, s0 / 11]) (lsN (ac_ok (dv (g := rVar 1) (m := s0) rfl (by decide) (by decide)) (ac_ok (dv (g := rVar 1) (m := s0) rfl (by decide) (by decide)) (ac_ok (dv (g := rVar 1) (m := s0) rfl (by decide) (by decide)) (ac_ok (dv (g := rVar 1) (m := s0) rfl (by decide) (by decide)) rfl)))) (by simp)) (by simp; omega)
  simp -implicitDefEqProofs only [startD, List.length_cons, List.length_nil, List.map_cons, List.map_nil, List.cons_append, List.nil_append, Nat.reduceAdd, Nat.reduceSub, List.replicate, List.set_cons_zero, List.set_cons_succ, List.foldl_cons, List.foldl_nil, x_killD_n, x_killD_c, x_slOf_f, x_slOf_o, x_slOf_t, x_slOf_k]
  obtain ⟨cs2, hc2, hl2⟩ : ∃ l : List Int, l = cells.take (1 + s0 / 13 % 6).toNat ∧ 1 ≤ l.length ∧ l.length ≤ 6 := ⟨_, rfl, by rw [List.length_take]; omega, by rw [List.length_take]; omega⟩
  obtain ⟨ks, ek, hg, hn, hw⟩ := law_kinds cs2 s0 h0 h1 (by omega)
  refine hs_seq (hs_set (x := kD ks) (call2o ?_ rfl ek) ?_)
  · rw [hc2]
    exact sl_a (f := PyData.int) (l := cells) rfl ((op_ok (a := .int 1) rfl (dm (g := rVar 1) (m := s0) rfl (by decide) (by decide) (by decide))).trans (x_add_i _ _)) (by omega)
  simp -implicitDefEqProofs only [startD, List.length_cons, List.length_nil, List.map_cons, List.map_nil, List.cons_append, List.nil_append, Nat.reduceAdd, Nat.reduceSub, List.replicate, List.set_cons_zero, List.set_cons_succ, List.foldl_cons, List.foldl_nil, x_killD_n, x_killD_c, x_slOf_f, x_slOf_o, x_slOf_t, x_slOf_k]
  have cut : ∀ (a : Nat) (b d : Int) (ρ : Rho), 0 < b → b < 1073741824 → 0 < d → a ≤ 4 → rVar 2 ρ = .ok (.list (cells.map PyData.int)) → rVar 1 ρ = .ok (.int s0) → ∃ c : List Int, eSl (rVar 2) (pSo (eC (.int (a : Nat)))) (pSo (eOp addD (eC (.int (a : Nat))) (eOp modD (eOp divD (rVar 1) (eC (.int b))) (eC (.int d))))) ρ = .ok (.list (c.map PyData.int)) ∧ c.length < d.toNat := fun a b d ρ hb hb2 hd ha r2 r1 => by
    have m0 := Int.emod_nonneg (s0 / b) (show d ≠ 0 by omega)
    have m1 := Int.emod_lt_of_pos (s0 / b) hd
    obtain ⟨c, e, hcl2⟩ := cut_n cells a (s0 / b % d) m0 (by omega)
    refine ⟨c, ?_, by omega⟩
    have a1 : eOp addD (eC (.int (a : Nat))) (eOp modD (eOp divD (rVar 1) (eC (.int b))) (eC (.int d))) ρ = .ok (.int ((a : Int) + s0 / b % d)) := (op_ok (a := .int (a : Nat)) rfl (dm r1 hb hb2 hd)).trans (x_add_i _ _)
    simp only [x_eSl, x_pSo, a1, r2, x_eC, x_bind_ok, x_asI]
    show (R.ok (PyData.list (cutD (cells.map PyData.int) (some (a : Nat)) (some ((a : Int) + s0 / b % d))))) = _
    rw [e]
  obtain ⟨c1, ec1, lc1⟩ := cut 2 78 9 [some (.d (.list (ns.map PyData.int))), some (.d (.int s0)), some (.d (.list (cells.map PyData.int))), some (.d (kD ks)), none, none, none, none, none, none, none, none, none] (by decide) (by decide) (by decide) (by decide) rfl rfl
  obtain ⟨ps, ep, po, pl⟩ := law_parts ks (by omega) c1 (by omega) s0 h0 h1
  refine hs_seq (hs_set (x := .list (ps.map lpI)) (call3E rfl ec1 rfl (by rw [ep]; exact toE_o _)) ?_)
  simp -implicitDefEqProofs only [startD, List.length_cons, List.length_nil, List.map_cons, List.map_nil, List.cons_append, List.nil_append, Nat.reduceAdd, Nat.reduceSub, List.replicate, List.set_cons_zero, List.set_cons_succ, List.foldl_cons, List.foldl_nil, x_killD_n, x_killD_c, x_slOf_f, x_slOf_o, x_slOf_t, x_slOf_k]
  have lp : ∀ r : List (Option Sl), eCB lenD (aCons (rVar 4) aNil) (some (.d (.list (ns.map PyData.int))) :: some (.d (.int s0)) :: some (.d (.list (cells.map PyData.int))) :: some (.d (kD ks)) :: some (.d (.list (ps.map lpI))) :: r) = .ok (.int (ps.length : Nat)) := fun r => by
    rw [cb1 (a := .list (ps.map lpI)) rfl, x_len_l, List.length_map]
  obtain ⟨c2, ec2, lc2⟩ := cut 3 702 17 [some (.d (.list (ns.map PyData.int))), some (.d (.int s0)), some (.d (.list (cells.map PyData.int))), some (.d (kD ks)), some (.d (.list (ps.map lpI))), none, none, none, none, none, none, none, none] (by decide) (by decide) (by decide) (by decide) rfl rfl
  obtain ⟨js, ej, jo, jl⟩ := law_joins ps.length (by omega) c2 (by omega) s0 h0 h1
  refine hs_seq (hs_set (x := .list (js.map jnI)) (call3E (lp _) ec2 rfl (by rw [ej]; exact toE_o _)) ?_)
  simp -implicitDefEqProofs only [startD, List.length_cons, List.length_nil, List.map_cons, List.map_nil, List.cons_append, List.nil_append, Nat.reduceAdd, Nat.reduceSub, List.replicate, List.set_cons_zero, List.set_cons_succ, List.foldl_cons, List.foldl_nil, x_killD_n, x_killD_c, x_slOf_f, x_slOf_o, x_slOf_t, x_slOf_k]
  obtain ⟨c3, ec3, lc3⟩ := cut 1 11934 9 [some (.d (.list (ns.map PyData.int))), some (.d (.int s0)), some (.d (.list (cells.map PyData.int))), some (.d (kD ks)), some (.d (.list (ps.map lpI))), some (.d (.list (js.map jnI))), none, none, none, none, none, none, none] (by decide) (by decide) (by decide) (by decide) rfl rfl
  obtain ⟨st, et, so, tl⟩ := law_steps ps.length c3 (by omega) s0 h0 h1
  refine hs_seq (hs_set (x := .list (st.map spI)) (call3E (lp _) ec3 rfl (by rw [et]; exact toE_o _)) ?_)
  simp -implicitDefEqProofs only [startD, List.length_cons, List.length_nil, List.map_cons, List.map_nil, List.cons_append, List.nil_append, Nat.reduceAdd, Nat.reduceSub, List.replicate, List.set_cons_zero, List.set_cons_succ, List.foldl_cons, List.foldl_nil, x_killD_n, x_killD_c, x_slOf_f, x_slOf_o, x_slOf_t, x_slOf_k]
  obtain ⟨s, hs⟩ : ∃ s : TSt, s = (ps, js, st) := ⟨_, rfl⟩
  have g : Gd ks s := by
    rw [hs]
    exact gd_of h0 hn po jo so (by show ps.length ≤ 8; omega) (by show js.length ≤ 16; omega) (by show st.length ≤ 8; omega)
  have G := g.sorted
  have tr := thing_rows s (fun p hp => po.z p (by rw [hs] at hp; exact hp)) g.t.p g.t.j (fun j hj => by
    obtain ⟨_, _, a, b, _⟩ := g.jg j hj
    have := g.t.p
    exact ⟨nd_lt s.1.length _ a.1 a.2 (by omega), nd_lt s.1.length _ b.1 b.2 (by omega)⟩) g.t.t (fun t ht => by
    obtain ⟨_, _, a, b⟩ := g.sg t ht
    have := g.t.p
    exact nd_lt s.1.length _ a b (by omega))
  have ro := rows_ok g
  obtain ⟨mx, em, m1, m2, m3⟩ := law_mixed g (rows_len g) (s0 / 17)
  obtain ⟨z, ls, ez, esp, hz, hls, hwd, hrw⟩ := text_rows mx (s0 / 19) (by omega) (fun r hr => ro r (m2 r hr)) m3
  have dd := law_due g
  have lw := law_written g g.t.j
  have rd1 := read_text g (by omega) m1 m2 esp hz hls hwd hrw
  have rd2 := read_txt G (show ks.length ≤ 1000 by omega)
  rw [sortT_i] at rd2
  have fo := law_formed G
  have wo := write_ok G
  have sp1 := fun a0 a1 a2 a3 a4 a5 a6 a7 a9 a10 => spoil1 (a0 := a0) (a1 := a1) (a2 := a2) (a3 := a3) (a4 := a4) (a5 := a5) (a6 := a6) (a7 := a7) (a9 := a9) (a10 := a10) G.t.p G.t.j G.t.t
  have e4 : ps = s.1 := by rw [hs]
  have e5 : js = s.2.1 := by rw [hs]
  have e6 : st = s.2.2 := by rw [hs]
  rw [e4, e5, e6]
  clear ec1 ec2 ec3 cut ep ej et
  refine hs_seq (hs_set (x := .str z) (call2 (call2 (call3E rfl rfl rfl (by rw [tr]; exact toE_o _)) (dv (g := rVar 1) (m := s0) rfl (by decide) (by decide)) em) (dv (g := rVar 1) (m := s0) rfl (by decide) (by decide)) ez) ?_)
  simp -implicitDefEqProofs only [startD, List.length_cons, List.length_nil, List.map_cons, List.map_nil, List.cons_append, List.nil_append, Nat.reduceAdd, Nat.reduceSub, List.replicate, List.set_cons_zero, List.set_cons_succ, List.foldl_cons, List.foldl_nil, x_killD_n, x_killD_c, x_slOf_f, x_slOf_o, x_slOf_t, x_slOf_k]
  generalize PyData.list (ns.map PyData.int) = a0
  generalize PyData.list (cells.map PyData.int) = a2
  refine hs_seq (hs_setM (x := thT (sortT s)) ?_ ?_)
  · simp only [x_mCall]
    rw [ac_ok (lst_kD rfl) (ac_ok rfl rfl), x_bind_ok]
    show (if 2 = 2 then (d_read_thing [kD ks, .str z]).toM else R.bad) = _
    rw [if_pos rfl, rd1]
    rfl
  change HS _ [some (Sl.d a0), some (.d (.int s0)), some (.d a2), some (.d (kD ks)), some (.d (.list (s.1.map lpI))), some (.d (.list (s.2.1.map jnI))), some (.d (.list (s.2.2.map spI))), some (.d (.str z)), some (.t (thT (sortT s))), none, none, none, none] _ _ _
  refine hs_seq (hs_set (x := thD (sortT s)) (call3 rfl rfl rfl dd) ?_)
  change HS _ [some (Sl.d a0), some (.d (.int s0)), some (.d a2), some (.d (kD ks)), some (.d (.list (s.1.map lpI))), some (.d (.list (s.2.1.map jnI))), some (.d (.list (s.2.2.map spI))), some (.d (.str z)), some (.t (thT (sortT s))), some (.d (thD (sortT s))), none, none, none] _ _ _
  have td := toD_th (sortT s)
  refine hs_seq (hs_if (c := !true || false) (DL.xOrB _ _ (xNotB true (bof (callH1 (hv_t rfl td) fo rfl))) (ne_th G (hv_t rfl td) rfl)) (fun q => by cases q) (fun _ => hs_next ?_))
  refine hs_seq (hs_set (x := .str (txt (sortT s))) (callH1 (hv_t rfl td) wo rfl) ?_)
  change HS _ [some (Sl.d a0), some (.d (.int s0)), some (.d a2), some (.d (kD ks)), some (.d (.list (s.1.map lpI))), some (.d (.list (s.2.1.map jnI))), some (.d (.list (s.2.2.map spI))), some (.d (.str z)), some (.t (thT (sortT s))), some (.d (thD (sortT s))), some (.d (.str (txt (sortT s)))), none, none] _ _ _
  refine hs_seq (hs_if (c := false || (false || false)) (DL.xOrB _ _ (ne_sS rfl (call3 rfl rfl rfl lw)) (DL.xOrB _ _ (ne_th G (hv_t rfl td) rfl) (ne_th G (call2E (lst_kD rfl) rfl (by rw [rd2]; exact toE_t td)) rfl))) (fun q => by cases q) (fun _ => hs_next ?_))
  refine hs_seq (hs_pre ?_)
  change HS _ (lwS a0 (.int s0) a2 (kD ks) (.list (s.1.map lpI)) (.list (s.2.1.map jnI)) (.list (s.2.2.map spI)) (.str z) (thD (sortT s)) (.str (txt (sortT s))) (some (.t (thT (sortT s)))) none none) _ _ _
  refine hs_nx (sp1 _ _ _ _ _ _ _ _ _ _) ?_
  refine hs_seq (hs_pre ?_)
  change HS _ (lwS a0 (.int s0) a2 (kD ks) (.list (s.1.map lpI)) (.list (s.2.1.map jnI)) (.list (s.2.2.map spI)) (.str z) (thD (sortT s)) (.str (txt (sortT s))) (some (.t (.tup [.lst ((sortT s).1.map ptT ++ [zzI]), .lst (((sortT s).2.1.map jnI).map Tv.fr ++ [zzI]), .lst (((sortT s).2.2.map spI).map Tv.fr ++ [zzI])]))) none none) _ _ _
  refine hs_nx (spoil2 G.t.s) ?_
  refine hs_ret (x := .bool true) ?_ rfl
  unfold eAnd
  rw [eq_thB G (call2E (lst_kD rfl) rfl (by rw [rd1]; exact toE_t td)) rfl, x_bind_ok, show asB (PyData.bool true) = R.ok true from rfl, x_bind_ok, if_pos rfl]
  rw [op_ok (call1 rfl wo) (b := .str (txt (sortT s))) rfl, x_eq, x_eqB_s, decide_eq_true rfl]
  rfl
end
end K05
theorem PySem.Challenge.cw_claimwise_k05_things_read_and_written_holds : PySem.Challenge.rw_claimwise_k05_things_read_and_written.Holds :=
  K05H.holds K05.law_ok
