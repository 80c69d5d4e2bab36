import PyProof.Rows.All
import Wide.All
import OpenK.AllK
import Wide.FinOn
import HandS.ForMost
import HandS.Defaults
import HandS.ForExc
import HandS.Wide
import HandS.IsInst
import HandS.SetKeys
import HandS.TupAny
import HandS.Style
import HandS.Codes
import PyProof.Rows.StrRev
import HandS.RaiseMore
import HandS.SortInts
import HandS.Walk
import HandS.Zip
import HandS.Conv
import HandS.DictComp
import HandS.SlotsOwn
import HandS.SetTxt0
import HandS.SetTxtIn
import HandS.Zip0
import KE.GoesMore
import KE.GoesEnum
import PyProof.SetRoads
import PyProof.WalkInts
import HandS.SortKw
import HandS.Small
import HandS.StrMore
import HandS.HeadHook2
import KE.KOpsOwn
import OpenK.KMeth
import KE.KStateDown
import HandS.Head0
import HandS.Head1
import HandS.Head2
import HandS.HeadEnd
import HandS.HeadHook1
import PySem.Challenge.RW_crosswalls_k74_ways_of_closed_floors
/-! Data in place of the heap (Dl), the law's text and the program's defs walked over it (Cw), the plain law, the head. -/
set_option Elab.async false
set_option linter.all false
set_option maxRecDepth 100000
set_option maxHeartbeats 2000000
/-! Dl: data in place of the heap. A: data, what stands for it, memory, going on. -/
namespace Dl
open PySem PySem.Spec L2
/-- a text by its signs -/
abbrev T (l : List Nat) : Str := ⟨l.toArray⟩
theorem T_list (x : Str) : T x.cps.toList = x := by cases x; rfl
theorem T_inj {a b : List Nat} (h : T a = T b) : a = b := by
  have e : a.toArray = b.toArray := congrArg Str.cps h
  simpa using e
theorem T_cps (l : List Nat) : (T l).cps.toList = l := rfl
theorem T_len (l : List Nat) : (T l).length = l.length := by show l.toArray.size = _; simp
/-- a key -/
abbrev DK := Sum Int (List Nat)
def DK.k : DK → Key
  | .inl i => .inl i
  | .inr l => .inr (T l)
theorem DK.k_inj {a b : DK} (h : DK.k a = DK.k b) : a = b := by
  cases a with
  | inl i => cases b with
    | inl j => exact congrArg Sum.inl (Sum.inl.inj h)
    | inr l => cases h
  | inr l => cases b with
    | inl j => cases h
    | inr m => exact congrArg Sum.inr (T_inj (Sum.inr.inj h))
/-- data -/
inductive D where
  | non | bl (b : Bool) | int (i : Int) | str (l : List Nat) | ref (a : Addr) | ty (n : String)
  | lst (xs : List D) | arr (xs : List D) | tup (xs : List D)
  | dct (kvs : List (DK × D)) | dcT (kvs : List (List DK × D))
  | obj (C : Addr) (fs : List (Str × D))
mutual
/-- v stands for d: F what never changes -/
def Rep (K : PySem.W.Frag) (F : Hp) : D → V → Prop
  | .non, v => v = .non
  | .bl b, v => v = .bl b
  | .int i, v => v = .int i
  | .str l, v => v = .str (T l)
  | .ref a, v => v = .ref a
  | .ty n, v => v = .ty n
  | .lst xs, v => ∃ a vs, v = .ref a ∧ F a = some (.lst vs) ∧ Reps K F xs vs
  | .arr xs, v => ∃ a vs, v = .ref a ∧ SqL K F a vs ∧ Reps K F xs vs
  | .tup xs, v => ∃ a vs, v = .ref a ∧ SqT K F a vs ∧ Reps K F xs vs
  | .dct kvs, v => ∃ a ws, v = .ref a ∧ (∃ o, F a = some (.frz o (.dK ws))) ∧ RepK K F kvs ws
  | .dcT kvs, v => ∃ a ws, v = .ref a ∧ (∃ o, F a = some (.frz o (.dT ws))) ∧ RepT K F kvs ws
  | .obj C fs, v => ∃ a dx ws, v = .ref a ∧ F a = some (.ins C dx ws) ∧ RepF K F fs ws
def Reps (K : PySem.W.Frag) (F : Hp) : List D → List V → Prop
  | [], vs => vs = []
  | x :: xs, vs => ∃ v r, vs = v :: r ∧ Rep K F x v ∧ Reps K F xs r
def RepK (K : PySem.W.Frag) (F : Hp) : List (DK × D) → List (Key × V) → Prop
  | [], ws => ws = []
  | (k, x) :: xs, ws => ∃ v r, ws = (k.k, v) :: r ∧ Rep K F x v ∧ RepK K F xs r
def RepT (K : PySem.W.Frag) (F : Hp) : List (List DK × D) → List (List Key × V) → Prop
  | [], ws => ws = []
  | (k, x) :: xs, ws => ∃ v r, ws = (k.map DK.k, v) :: r ∧ Rep K F x v ∧ RepT K F xs r
def RepF (K : PySem.W.Frag) (F : Hp) : List (Str × D) → List (Str × V) → Prop
  | [], ws => ws = []
  | (f, x) :: xs, ws => ∃ v r, ws = (f, v) :: r ∧ Rep K F x v ∧ RepF K F xs r
end
section
variable {K : PySem.W.Frag} {F F' : Hp}
theorem rd_mono (e : Same F F') {a : Addr} {u : HO} (h : Rd F a u) : Rd F' a u := by
  rcases h with h | ⟨o, h⟩
  · exact .inl (e _ _ h)
  · exact .inr ⟨o, e _ _ h⟩
theorem sqt_mono (e : Same F F') {a : Addr} {xs : List V} (h : SqT K F a xs) : SqT K F' a xs := by
  rcases h with h | h
  · exact .inl (rd_mono e h)
  · exact .inr h
mutual
theorem Rep.mono (e : Same F F') : ∀ {d : D} {v : V}, Rep K F d v → Rep K F' d v
  | .non, _, h => by unfold Rep at *; exact h
  | .bl _, _, h => by unfold Rep at *; exact h
  | .int _, _, h => by unfold Rep at *; exact h
  | .str _, _, h => by unfold Rep at *; exact h
  | .ref _, _, h => by unfold Rep at *; exact h
  | .ty _, _, h => by unfold Rep at *; exact h
  | .lst _, _, h => by
    unfold Rep at *
    obtain ⟨a, vs, e1, e2, e3⟩ := h
    exact ⟨a, vs, e1, e _ _ e2, Reps.mono e e3⟩
  | .arr _, _, h => by
    unfold Rep at *
    obtain ⟨a, vs, e1, e2, e3⟩ := h
    exact ⟨a, vs, e1, e.seq e2, Reps.mono e e3⟩
  | .tup _, _, h => by
    unfold Rep at *
    obtain ⟨a, vs, e1, e2, e3⟩ := h
    exact ⟨a, vs, e1, sqt_mono e e2, Reps.mono e e3⟩
  | .dct _, _, h => by
    unfold Rep at *
    obtain ⟨a, vs, e1, e2, e3⟩ := h
    exact ⟨a, vs, e1, (let ⟨o, h⟩ := e2; ⟨o, e _ _ h⟩), RepK.mono e e3⟩
  | .dcT _, _, h => by
    unfold Rep at *
    obtain ⟨a, vs, e1, e2, e3⟩ := h
    exact ⟨a, vs, e1, (let ⟨o, h⟩ := e2; ⟨o, e _ _ h⟩), RepT.mono e e3⟩
  | .obj _ _, _, h => by
    unfold Rep at *
    obtain ⟨a, dx, vs, e1, e2, e3⟩ := h
    exact ⟨a, dx, vs, e1, e _ _ e2, RepF.mono e e3⟩
theorem Reps.mono (e : Same F F') : ∀ {xs : List D} {vs : List V}, Reps K F xs vs → Reps K F' xs vs
  | [], _, h => by unfold Reps at *; exact h
  | _ :: _, _, h => by
    unfold Reps at *
    obtain ⟨v, r, e1, e2, e3⟩ := h
    exact ⟨v, r, e1, Rep.mono e e2, Reps.mono e e3⟩
theorem RepK.mono (e : Same F F') : ∀ {xs : List (DK × D)} {vs : List (Key × V)}, RepK K F xs vs → RepK K F' xs vs
  | [], _, h => by unfold RepK at *; exact h
  | (_, _) :: _, _, h => by
    unfold RepK at *
    obtain ⟨v, r, e1, e2, e3⟩ := h
    exact ⟨v, r, e1, Rep.mono e e2, RepK.mono e e3⟩
theorem RepT.mono (e : Same F F') : ∀ {xs : List (List DK × D)} {vs : List (List Key × V)}, RepT K F xs vs → RepT K F' xs vs
  | [], _, h => by unfold RepT at *; exact h
  | (_, _) :: _, _, h => by
    unfold RepT at *
    obtain ⟨v, r, e1, e2, e3⟩ := h
    exact ⟨v, r, e1, Rep.mono e e2, RepT.mono e e3⟩
theorem RepF.mono (e : Same F F') : ∀ {xs : List (Str × D)} {vs : List (Str × V)}, RepF K F xs vs → RepF K F' xs vs
  | [], _, h => by unfold RepF at *; exact h
  | (_, _) :: _, _, h => by
    unfold RepF at *
    obtain ⟨v, r, e1, e2, e3⟩ := h
    exact ⟨v, r, e1, Rep.mono e e2, RepF.mono e e3⟩
end
theorem rep_non {v} : Rep K F .non v ↔ v = .non := by unfold Rep; exact Iff.rfl
theorem rep_bl {b v} : Rep K F (.bl b) v ↔ v = .bl b := by unfold Rep; exact Iff.rfl
theorem rep_int {i v} : Rep K F (.int i) v ↔ v = .int i := by unfold Rep; exact Iff.rfl
theorem rep_str {l v} : Rep K F (.str l) v ↔ v = .str (T l) := by unfold Rep; exact Iff.rfl
theorem rep_ref {a v} : Rep K F (.ref a) v ↔ v = .ref a := by unfold Rep; exact Iff.rfl
theorem rep_ty {a v} : Rep K F (.ty a) v ↔ v = .ty a := by unfold Rep; exact Iff.rfl
theorem rep_lst {xs v} : Rep K F (.lst xs) v ↔ ∃ a vs, v = .ref a ∧ F a = some (.lst vs) ∧ Reps K F xs vs := by
  exact Iff.of_eq (by rw [Rep])
theorem rep_arr {xs v} : Rep K F (.arr xs) v ↔ ∃ a vs, v = .ref a ∧ SqL K F a vs ∧ Reps K F xs vs := by
  exact Iff.of_eq (by rw [Rep])
theorem rep_lstS {xs v} (h : Rep K F (.lst xs) v) : ∃ a vs, v = .ref a ∧ SqL K F a vs ∧ Reps K F xs vs := by
  obtain ⟨a, vs, e, h, r⟩ := rep_lst.mp h
  exact ⟨a, vs, e, SqL.of h, r⟩
theorem rep_tup {xs v} : Rep K F (.tup xs) v ↔ ∃ a vs, v = .ref a ∧ SqT K F a vs ∧ Reps K F xs vs := by
  exact Iff.of_eq (by rw [Rep])
theorem rep_dct {xs v} : Rep K F (.dct xs) v ↔ ∃ a vs, v = .ref a ∧ (∃ o, F a = some (.frz o (.dK vs))) ∧ RepK K F xs vs := by
  exact Iff.of_eq (by rw [Rep])
theorem rep_dcT {xs v} : Rep K F (.dcT xs) v ↔ ∃ a vs, v = .ref a ∧ (∃ o, F a = some (.frz o (.dT vs))) ∧ RepT K F xs vs := by
  exact Iff.of_eq (by rw [Rep])
theorem rep_obj {C fs v} : Rep K F (.obj C fs) v ↔ ∃ a dx ws, v = .ref a ∧ F a = some (.ins C dx ws) ∧ RepF K F fs ws := by
  exact Iff.of_eq (by rw [Rep])
theorem reps_nil {vs} : Reps K F [] vs ↔ vs = [] := by unfold Reps; exact Iff.rfl
theorem reps_cons {x xs vs} : Reps K F (x :: xs) vs ↔ ∃ v r, vs = v :: r ∧ Rep K F x v ∧ Reps K F xs r := by
  exact Iff.of_eq (by rw [Reps])
theorem Reps.len : ∀ {xs : List D} {vs : List V}, Reps K F xs vs → vs.length = xs.length
  | [], _, h => by rw [reps_nil.mp h] <;> rfl
  | _ :: _, _, h => by
    obtain ⟨v, r, rfl, _, h2⟩ := reps_cons.mp h
    simp [Reps.len h2]
theorem Reps.get : ∀ {xs : List D} {vs : List V} {i : Nat} {x : D}, Reps K F xs vs → xs[i]? = some x → ∃ v, vs[i]? = some v ∧ Rep K F x v
  | [], _, _, _, _, e => by cases e
  | _ :: _, _, i, x, h, e => by
    obtain ⟨v, r, rfl, h1, h2⟩ := reps_cons.mp h
    cases i with
    | zero => cases e; exact ⟨v, rfl, h1⟩
    | succ i => exact Reps.get (i := i) h2 (by simpa using e)
theorem Reps.snoc : ∀ {xs : List D} {vs : List V} {x : D} {v : V}, Reps K F xs vs → Rep K F x v → Reps K F (xs ++ [x]) (vs ++ [v])
  | [], _, _, _, h, h1 => by rw [reps_nil.mp h]; exact reps_cons.mpr ⟨_, _, rfl, h1, reps_nil.mpr rfl⟩
  | _ :: _, _, _, _, h, h1 => by
    obtain ⟨u, r, rfl, h2, h3⟩ := reps_cons.mp h
    exact reps_cons.mpr ⟨u, _, rfl, h2, Reps.snoc h3 h1⟩
theorem Reps.append : ∀ {xs ys : List D} {vs ws : List V}, Reps K F xs vs → Reps K F ys ws → Reps K F (xs ++ ys) (vs ++ ws)
  | [], _, _, _, h, h1 => by rw [reps_nil.mp h]; exact h1
  | _ :: _, _, _, _, h, h1 => by
    obtain ⟨u, r, rfl, h2, h3⟩ := reps_cons.mp h
    exact reps_cons.mpr ⟨u, _, rfl, h2, Reps.append h3 h1⟩
theorem Reps.take : ∀ {xs : List D} {vs : List V} (n : Nat), Reps K F xs vs → Reps K F (xs.take n) (vs.take n)
  | _, _, 0, h => by simp only [List.take_zero]; exact reps_nil.mpr rfl
  | [], _, _ + 1, h => by rw [reps_nil.mp h]; exact reps_nil.mpr rfl
  | _ :: _, _, n + 1, h => by
    obtain ⟨u, r, rfl, h2, h3⟩ := reps_cons.mp h
    exact reps_cons.mpr ⟨u, _, rfl, h2, Reps.take n h3⟩
theorem Reps.drop : ∀ {xs : List D} {vs : List V} (n : Nat), Reps K F xs vs → Reps K F (xs.drop n) (vs.drop n)
  | _, _, 0, h => h
  | [], _, _ + 1, h => by rw [reps_nil.mp h]; exact reps_nil.mpr rfl
  | _ :: _, _, n + 1, h => by
    obtain ⟨u, r, rfl, h2, h3⟩ := reps_cons.mp h
    exact Reps.drop n h3
theorem Reps.rev : ∀ {xs : List D} {vs : List V}, Reps K F xs vs → Reps K F xs.reverse vs.reverse
  | [], _, h => by rw [reps_nil.mp h]; exact reps_nil.mpr rfl
  | _ :: _, _, h => by
    obtain ⟨u, r, rfl, h2, h3⟩ := reps_cons.mp h
    rw [List.reverse_cons, List.reverse_cons]
    exact (Reps.rev h3).snoc h2
theorem Reps.set : ∀ {xs : List D} {vs : List V} {x : D} {v : V} (n : Nat), Reps K F xs vs → Rep K F x v → Reps K F (xs.set n x) (vs.set n v)
  | [], _, _, _, _, h, h1 => by rw [reps_nil.mp h]; exact reps_nil.mpr rfl
  | _ :: _, _, _, _, 0, h, h1 => by
    obtain ⟨u, r, rfl, h2, h3⟩ := reps_cons.mp h
    exact reps_cons.mpr ⟨_, _, rfl, h1, h3⟩
  | _ :: _, _, _, _, n + 1, h, h1 => by
    obtain ⟨u, r, rfl, h2, h3⟩ := reps_cons.mp h
    exact reps_cons.mpr ⟨u, _, rfl, h2, Reps.set n h3 h1⟩
/-- data of one kind stand for themselves -/
theorem reps_map {α : Type} {f : α → D} {g : α → V} (h : ∀ x v, Rep K F (f x) v ↔ v = g x) : ∀ {xs : List α} {vs : List V}, Reps K F (xs.map f) vs ↔ vs = xs.map g
  | [], vs => by rw [List.map_nil, List.map_nil]; exact reps_nil
  | x :: xs, vs => by
    rw [List.map_cons, List.map_cons]
    constructor
    · intro q
      obtain ⟨v, r, rfl, h1, h2⟩ := reps_cons.mp q
      rw [(h x v).mp h1, (reps_map h).mp h2]
    · rintro rfl
      exact reps_cons.mpr ⟨_, _, rfl, (h x _).mpr rfl, (reps_map h).mpr rfl⟩
theorem reps_ints {ns : List Int} {vs : List V} : Reps K F (ns.map D.int) vs ↔ vs = ns.map V.int := reps_map fun _ _ => rep_int
theorem reps_bls {ns : List Bool} {vs : List V} : Reps K F (ns.map D.bl) vs ↔ vs = ns.map V.bl := reps_map fun _ _ => rep_bl
theorem reps_strs {ns : List (List Nat)} {vs : List V} : Reps K F (ns.map D.str) vs ↔ vs = (ns.map T).map V.str := by
  rw [List.map_map]; exact reps_map fun _ _ => rep_str
end

/-! ### dicts at the level of data -/
def look {κ α : Type} [DecidableEq κ] : List (κ × α) → κ → Option α
  | [], _ => none
  | (k, x) :: r, j => if k = j then some x else look r j
def put {κ α : Type} [DecidableEq κ] (kvs : List (κ × α)) (k : κ) (y : α) : List (κ × α) :=
  if (look kvs k).isSome = true then kvs.map (fun kv => if kv.1 = k then (kv.1, y) else kv) else kvs ++ [(k, y)]
section
variable {K : PySem.W.Frag} {F : Hp}
theorem repK_nil {ws} : RepK K F [] ws ↔ ws = [] := by unfold RepK; exact Iff.rfl
theorem repK_cons {k x xs ws} : RepK K F ((k, x) :: xs) ws ↔ ∃ v r, ws = (k.k, v) :: r ∧ Rep K F x v ∧ RepK K F xs r := by
  exact Iff.of_eq (by rw [RepK])
theorem repT_nil {ws} : RepT K F [] ws ↔ ws = [] := by unfold RepT; exact Iff.rfl
theorem repT_cons {k x xs ws} : RepT K F ((k, x) :: xs) ws ↔ ∃ v r, ws = (k.map DK.k, v) :: r ∧ Rep K F x v ∧ RepT K F xs r := by
  exact Iff.of_eq (by rw [RepT])
theorem repF_nil {ws} : RepF K F [] ws ↔ ws = [] := by unfold RepF; exact Iff.rfl
theorem repF_cons {k x xs ws} : RepF K F ((k, x) :: xs) ws ↔ ∃ v r, ws = (k, v) :: r ∧ Rep K F x v ∧ RepF K F xs r := by
  exact Iff.of_eq (by rw [RepF])
theorem RepK.len : ∀ {xs : List (DK × D)} {ws : List (Key × V)}, RepK K F xs ws → ws.length = xs.length
  | [], _, h => by rw [repK_nil.mp h] <;> rfl
  | (_, _) :: _, _, h => by
    obtain ⟨v, r, rfl, _, h2⟩ := repK_cons.mp h
    simp [RepK.len h2]
theorem valV_cons {κ : Type} [DecidableEq κ] (k : κ) (v : V) (r : List (κ × V)) (j : κ) : valV ((k, v) :: r) j = if k = j then some v else valV r j := by
  unfold valV
  by_cases h : k = j
  · subst h; simp
  · simp [List.find?_cons, h]
theorem RepK.look : ∀ {xs : List (DK × D)} {ws : List (Key × V)} (j : DK), RepK K F xs ws → (match look xs j with | some x => ∃ v, valV ws j.k = some v ∧ Rep K F x v | none => valV ws j.k = none)
  | [], _, j, h => by rw [repK_nil.mp h]; rfl
  | (k, x) :: xs, _, j, h => by
    obtain ⟨v, r, rfl, h1, h2⟩ := repK_cons.mp h
    rw [valV_cons]
    unfold Dl.look
    by_cases e : k = j
    · rw [if_pos e, if_pos (congrArg DK.k e)]
      exact ⟨v, rfl, h1⟩
    · rw [if_neg e, if_neg fun q => e (DK.k_inj q)]
      exact RepK.look j h2
theorem RepK.look_some {xs : List (DK × D)} {ws : List (Key × V)} {j : DK} {x : D} (h : RepK K F xs ws) (e : Dl.look xs j = some x) : ∃ v, valV ws j.k = some v ∧ Rep K F x v := by
  have q := h.look j; rw [e] at q; exact q
theorem RepK.look_none {xs : List (DK × D)} {ws : List (Key × V)} {j : DK} (h : RepK K F xs ws) (e : Dl.look xs j = none) : valV ws j.k = none := by
  have q := h.look j; rw [e] at q; exact q
theorem RepK.look_isSome {xs : List (DK × D)} {ws : List (Key × V)} (j : DK) (h : RepK K F xs ws) : (valV ws j.k).isSome = (Dl.look xs j).isSome := by
  cases e : Dl.look xs j with
  | none => rw [h.look_none e] <;> rfl
  | some x => obtain ⟨v, q, _⟩ := h.look_some e; rw [q] <;> rfl
theorem RepK.snoc : ∀ {xs : List (DK × D)} {ws : List (Key × V)} {k : DK} {x : D} {v : V}, RepK K F xs ws → Rep K F x v → RepK K F (xs ++ [(k, x)]) (ws ++ [(k.k, v)])
  | [], _, _, _, _, h, h1 => by rw [repK_nil.mp h]; exact repK_cons.mpr ⟨_, _, rfl, h1, repK_nil.mpr rfl⟩
  | (_, _) :: _, _, _, _, _, h, h1 => by
    obtain ⟨u, r, rfl, h2, h3⟩ := repK_cons.mp h
    exact repK_cons.mpr ⟨u, _, rfl, h2, RepK.snoc h3 h1⟩
theorem RepK.repl {k : DK} {x : D} {v : V} : ∀ {xs : List (DK × D)} {ws : List (Key × V)}, RepK K F xs ws → Rep K F x v → RepK K F (xs.map fun kv => if kv.1 = k then (kv.1, x) else kv) (ws.map fun kv => if kv.1 = k.k then (kv.1, v) else kv)
  | [], _, h, h1 => by rw [repK_nil.mp h]; exact repK_nil.mpr rfl
  | (j, y) :: _, _, h, h1 => by
    obtain ⟨u, r, rfl, h2, h3⟩ := repK_cons.mp h
    rw [List.map_cons, List.map_cons]
    by_cases e : j = k
    · rw [if_pos e, if_pos (congrArg DK.k e)]
      exact repK_cons.mpr ⟨v, _, rfl, h1, RepK.repl h3 h1⟩
    · rw [if_neg e, if_neg fun q => e (DK.k_inj q)]
      exact repK_cons.mpr ⟨u, _, rfl, h2, RepK.repl h3 h1⟩
theorem RepK.put {xs : List (DK × D)} {ws : List (Key × V)} {k : DK} {x : D} {v : V} (h : RepK K F xs ws) (h1 : Rep K F x v) : RepK K F (Dl.put xs k x) (putK ws k.k v) := by
  unfold Dl.put putK
  rw [valV_any, h.look_isSome k]
  by_cases e : (Dl.look xs k).isSome = true
  · rw [if_pos e, if_pos e]; exact h.repl h1
  · rw [if_neg e, if_neg e]; exact h.snoc h1
end
end Dl

set_option Elab.async false
set_option linter.all false
set_option maxRecDepth 100000
set_option maxHeartbeats 2000000
/-! Dl: B: memory that changes, going on, what an expression comes to, what holds behind a statement. -/
namespace Dl
open PySem PySem.Spec L2
/-- an object that may change -/
inductive MO where
  | lst (xs : List D) | dK (kvs : List (DK × D)) | dT (kvs : List (List DK × D)) | ins (C : Addr) (fs : List (Str × D))
  | dKL (kvs : List (DK × D)) (u : HO) | dTL (kvs : List (List DK × D)) (u : HO)
abbrev Mem := List (Addr × MO)
abbrev Env := List (Str × Option D)
def adr (M : Mem) : List Addr := M.map (·.1)
theorem ne_mem {p q : Addr} {l : List Addr} (hq : q ∈ l) (hp : p ∉ l) : q ≠ p := fun z => hp (z ▸ hq)
theorem ne_val {H : Hp} {p q : Addr} (hq : H q ≠ none) (hp : H p = none) : q ≠ p := fun z => hq (z ▸ hp)
def RepM (K : PySem.W.Frag) (F : Hp) : MO → HO → Prop
  | .lst xs, o => ∃ vs, o = .lst vs ∧ Reps K F xs vs
  | .dK kvs, o => ∃ ws, o = .dK ws ∧ RepK K F kvs ws
  | .dT kvs, o => ∃ ws, o = .dT ws ∧ RepT K F kvs ws
  | .ins C fs, o => ∃ dx ws, o = .ins C dx ws ∧ RepF K F fs ws
  | .dKL kvs u, o => ∃ ws w, o = u ∧ u = .frz w (.dK ws) ∧ RepK K F kvs ws
  | .dTL kvs u, o => ∃ ws w, o = u ∧ u = .frz w (.dT ws) ∧ RepT K F kvs ws
theorem RepM.mono {K : PySem.W.Frag} {F F' : Hp} (e : Same F F') : ∀ {o : MO} {u : HO}, RepM K F o u → RepM K F' o u
  | .lst _, _, ⟨vs, h, r⟩ => ⟨vs, h, r.mono e⟩
  | .dK _, _, ⟨vs, h, r⟩ => ⟨vs, h, r.mono e⟩
  | .dT _, _, ⟨vs, h, r⟩ => ⟨vs, h, r.mono e⟩
  | .ins _ _, _, ⟨dx, vs, h, r⟩ => ⟨dx, vs, h, r.mono e⟩
  | .dKL _ _, _, ⟨vs, w, h, g, r⟩ => ⟨vs, w, h, g, r.mono e⟩
  | .dTL _ _, _, ⟨vs, w, h, g, r⟩ => ⟨vs, w, h, g, r.mono e⟩
def MOk (K : PySem.W.Frag) (F H : Hp) : Mem → Prop
  | [] => True
  | (p, o) :: m => F p = none ∧ (∃ u, H p = some u ∧ RepM K F o u) ∧ p ∉ adr m ∧ MOk K F H m
structure Sit (K : PySem.W.Frag) (F : Hp) (M : Mem) (H : Hp) : Prop where
  fh : Same F H
  ok : MOk K F H M
structure Go (M : Mem) (F H : Hp) (M' : Mem) (F' H' : Hp) : Prop where
  ff : Same F F'
  hh : ∀ b o, b ∉ adr M → H b = some o → H' b = some o
  nw : ∀ b, H b ≠ none → F b = none → b ∉ adr M → F' b = none
  nm : ∀ p ∈ adr M', p ∈ adr M ∨ H p = none
section
variable {K : PySem.W.Frag} {F F' F1 F2 H H' H1 H2 : Hp} {M M' M1 M2 : Mem}
theorem Go.refl : Go M F H M F H := ⟨Same.refl _, fun _ _ _ e => e, fun _ _ e _ => e, fun _ h => .inl h⟩
theorem Go.trans (a : Go M F H M1 F1 H1) (b : Go M1 F1 H1 M2 F2 H2) : Go M F H M2 F2 H2 := by
  have out : ∀ p, p ∉ adr M → H p ≠ none → p ∉ adr M1 := fun p hp hn hm => by
    rcases a.nm p hm with z | z
    · exact hp z
    · exact hn z
  refine ⟨a.ff.trans b.ff, fun p o hp e => ?_, fun p hn hf hp => ?_, fun p hp => ?_⟩
  · exact b.hh p o (out p hp (by rw [e]; simp)) (a.hh p o hp e)
  · refine b.nw p ?_ (a.nw p hn hf hp) (out p hp hn)
    cases e : H p with
    | none => exact absurd e hn
    | some o => rw [a.hh p o hp e]; simp
  · rcases b.nm p hp with z | z
    · exact a.nm p z
    · by_cases hp' : p ∈ adr M
      · exact .inl hp'
      · cases e : H p with
        | none => exact .inr rfl
        | some o => rw [a.hh p o hp' e] at z; cases z
theorem MOk.out (h : MOk K F H M) : ∀ {p}, p ∈ adr M → F p = none ∧ H p ≠ none := by
  induction M with
  | nil => intro p hp; cases hp
  | cons x m ih =>
    obtain ⟨q, o⟩ := x
    obtain ⟨h1, ⟨u, h2, _⟩, _, h4⟩ := h
    intro p hp
    rcases List.mem_cons.mp hp with e | hp
    · subst e; exact ⟨h1, by rw [h2]; simp⟩
    · exact ih h4 hp
/-- the memory does not see what grows -/
theorem MOk.step (h : MOk K F H M) (ff : Same F F') (hf : ∀ p ∈ adr M, F' p = none) (hh : ∀ p ∈ adr M, ∀ o, H p = some o → H' p = some o) : MOk K F' H' M := by
  induction M with
  | nil => trivial
  | cons x m ih =>
    obtain ⟨q, o⟩ := x
    obtain ⟨h1, ⟨u, h2, h3⟩, h4, h5⟩ := h
    exact ⟨hf q (List.mem_cons_self ..), ⟨u, hh q (List.mem_cons_self ..) u h2, h3.mono ff⟩, h4, ih h5 (fun p hp => hf p (List.mem_cons_of_mem _ hp)) fun p hp => hh p (List.mem_cons_of_mem _ hp)⟩
/-- a new thing that never changes -/
theorem Sit.new {p : Addr} {o : HO} (S : Sit K F M H) (hp : H p = none) : Sit K (upd F p o) M (upd H p o) ∧ Go M F H M (upd F p o) (upd H p o) := by
  have hF : F p = none := S.fh.free hp
  have sf : Same F (upd F p o) := fun b u e => by rw [upd_ne (ne_of_none e hF)]; exact e
  refine ⟨⟨fun b u e => ?_, S.ok.step sf (fun q hq => ?_) fun q hq u e => ?_⟩, sf, fun b u _ e => ?_, fun b hb e _ => ?_, fun _ h => .inl h⟩
  · by_cases hb : b = p
    · subst hb; rw [upd_same] at e; rw [upd_same]; exact e
    · rw [upd_ne hb] at e; rw [upd_ne hb]; exact S.fh b u e
  · rw [upd_ne (ne_val (S.ok.out hq).2 hp)]; exact (S.ok.out hq).1
  · rw [upd_ne (ne_of_none e hp)]; exact e
  · rw [upd_ne (ne_of_none e hp)]; exact e
  · rw [upd_ne (ne_val hb hp)]; exact e
/-- a new thing that may change -/
theorem Sit.newM {p : Addr} {o : MO} {u : HO} (S : Sit K F M H) (hp : H p = none) (r : RepM K F o u) : Sit K F ((p, o) :: M) (upd H p u) ∧ Go M F H ((p, o) :: M) F (upd H p u) := by
  have hF : F p = none := S.fh.free hp
  refine ⟨⟨fun b v e => ?_, hF, ⟨u, upd_same, r⟩, fun hm => (S.ok.out hm).2 hp, S.ok.step (Same.refl _) (fun q hq => (S.ok.out hq).1) fun q hq v e => ?_⟩, Same.refl _, fun b v _ e => ?_, fun b _ e _ => e, fun q hq => ?_⟩
  · rw [upd_ne (ne_of_none e hF)]; exact S.fh b v e
  · rw [upd_ne (ne_of_none e hp)]; exact e
  · rw [upd_ne (ne_of_none e hp)]; exact e
  · rcases List.mem_cons.mp hq with e | hq
    · subst e; exact .inr hp
    · exact .inl hq
end
/-- the i-th object of the memory -/
inductive MAt : Mem → Addr → MO → Prop where
  | here {p o m} : MAt ((p, o) :: m) p o
  | there {q o' m p o} : MAt m p o → MAt ((q, o') :: m) p o
inductive MPut : Mem → Addr → MO → Mem → Prop where
  | here {p o o' m} : MPut ((p, o) :: m) p o' ((p, o') :: m)
  | there {q o' m p o m'} : MPut m p o m' → MPut ((q, o') :: m) p o ((q, o') :: m')
/-- taken out -/
inductive MCut : Mem → Addr → MO → Mem → Prop where
  | here {p o m} : MCut ((p, o) :: m) p o m
  | there {q o' m p o m'} : MCut m p o m' → MCut ((q, o') :: m) p o ((q, o') :: m')
section
variable {K : PySem.W.Frag} {F F' H H' : Hp} {M M' : Mem} {p : Addr} {o o' : MO} {u : HO}
theorem MAt.get (a : MAt M p o) (h : MOk K F H M) : F p = none ∧ ∃ u, H p = some u ∧ RepM K F o u := by
  induction a with
  | here => exact ⟨h.1, h.2.1⟩
  | there _ ih => exact ih h.2.2.2
theorem MPut.adr (a : MPut M p o M') : Dl.adr M' = Dl.adr M := by
  induction a with
  | here => rfl
  | there _ ih => show _ :: _ = _ :: _; exact congrArg _ ih
theorem MPut.mem (a : MPut M p o M') : p ∈ Dl.adr M := by
  induction a with
  | here => exact List.mem_cons_self ..
  | there _ ih => exact List.mem_cons_of_mem _ ih
theorem MPut.ok (a : MPut M p o M') (h : MOk K F H M) (r : RepM K F o u) : MOk K F (upd H p u) M' := by
  induction a with
  | here =>
    obtain ⟨h1, _, h3, h4⟩ := h
    exact ⟨h1, ⟨u, upd_same, r⟩, h3, h4.step (Same.refl _) (fun q hq => (h4.out hq).1) fun q hq v e => by rw [upd_ne (ne_mem hq h3)]; exact e⟩
  | there a ih =>
    obtain ⟨h1, ⟨v, h2, h2'⟩, h3, h4⟩ := h
    exact ⟨h1, ⟨v, by rw [upd_ne (ne_mem a.mem h3).symm]; exact h2, h2'⟩, by rw [a.adr]; exact h3, ih h4 r⟩
theorem Sit.put (S : Sit K F M H) (a : MPut M p o M') (r : RepM K F o u) : Sit K F M' (upd H p u) ∧ Go M F H M' F (upd H p u) := by
  have hF := (S.ok.out a.mem).1
  refine ⟨⟨fun b v e => ?_, a.ok S.ok r⟩, Same.refl _, fun b v hb e => ?_, fun b _ e _ => e, fun q hq => .inl (by rw [← a.adr]; exact hq)⟩
  · rw [upd_ne (ne_of_none e hF)]; exact S.fh b v e
  · rw [upd_ne (ne_mem a.mem hb).symm]; exact e
theorem MCut.at_ (a : MCut M p o M') : MAt M p o := by
  induction a with
  | here => exact .here
  | there _ ih => exact .there ih
theorem MCut.sub (a : MCut M p o M') : ∀ q ∈ Dl.adr M', q ∈ Dl.adr M := by
  induction a with
  | here => exact fun q hq => List.mem_cons_of_mem _ hq
  | there _ ih =>
    intro q hq
    rcases List.mem_cons.mp hq with e | hq
    · subst e; exact List.mem_cons_self ..
    · exact List.mem_cons_of_mem _ (ih q hq)
theorem MCut.ok (a : MCut M p o M') (h : MOk K F H M) : MOk K F H M' ∧ p ∉ Dl.adr M' := by
  induction a with
  | here => exact ⟨h.2.2.2, h.2.2.1⟩
  | there a ih =>
    obtain ⟨h1, h2, h3, h4⟩ := h
    obtain ⟨i1, i2⟩ := ih h4
    refine ⟨⟨h1, h2, fun z => h3 (a.sub _ z), i1⟩, fun z => ?_⟩
    rcases List.mem_cons.mp z with e | z
    · subst e
      have : ∀ {m q o}, MAt m q o → q ∈ Dl.adr m := fun {m q o} b => by
        induction b with
        | here => exact List.mem_cons_self ..
        | there _ ih => exact List.mem_cons_of_mem _ ih
      exact h3 (this a.at_)
    · exact i2 z
/-- what changed is from now on as it is -/
theorem Sit.freezeL (S : Sit K F M H) (a : MCut M p o M') (w : HO) : Same F (upd F p w) ∧ Sit K (upd F p w) M' (upd H p w) ∧ Go M F H M' (upd F p w) (upd H p w) := by
  obtain ⟨hF, u, hu, r⟩ := a.at_.get S.ok
  obtain ⟨o1, o2⟩ := a.ok S.ok
  have hm : p ∈ Dl.adr M := by
    have : ∀ {m q o}, MAt m q o → q ∈ Dl.adr m := fun {m q o} b => by
      induction b with
      | here => exact List.mem_cons_self ..
      | there _ ih => exact List.mem_cons_of_mem _ ih
    exact this a.at_
  have sf : Same F (upd F p w) := fun b v e => by rw [upd_ne (ne_of_none e hF)]; exact e
  refine ⟨sf, ⟨fun b v e => ?_, o1.step sf (fun q hq => ?_) fun q hq o e => ?_⟩, sf, fun b o hb e => ?_, fun b _ e hb => ?_, fun q hq => .inl (a.sub q hq)⟩
  · by_cases hb : b = p
    · subst hb; rw [upd_same] at e ⊢; exact e
    · rw [upd_ne hb] at e; rw [upd_ne hb]; exact S.fh b v e
  · rw [upd_ne (ne_mem hq o2)]; exact (o1.out hq).1
  · rw [upd_ne (ne_mem hq o2)]; exact e
  · rw [upd_ne (ne_mem hm hb).symm]; exact e
  · rw [upd_ne (ne_mem hm hb).symm]; exact e
theorem Sit.freeze (S : Sit K F M H) (a : MCut M p o M') : ∃ u, H p = some u ∧ RepM K F o u ∧ Same F (upd F p u) ∧ Sit K (upd F p u) M' H ∧ Go M F H M' (upd F p u) H := by
  obtain ⟨hF, u, hu, r⟩ := a.at_.get S.ok
  obtain ⟨h1, h2, h3⟩ := S.freezeL a u
  have e : upd H p u = H := by
    funext b
    by_cases hb : b = p
    · subst hb; rw [upd_same, hu]
    · rw [upd_ne hb]
  rw [e] at h2 h3
  exact ⟨u, hu, r, h1, h2, h3⟩
end

/-! ### names -/
inductive At : Env → Str → D → Prop where
  | here {x d ρ} : At ((x, some d) :: ρ) x d
  | there {y o ρ x d} : At ρ x d → At ((y, o) :: ρ) x d
inductive Put : Env → Str → (Option D → Env) → Prop where
  | here {x o ρ} : Put ((x, o) :: ρ) x (fun d => (x, d) :: ρ)
  | there {y o ρ x f} : Put ρ x f → Put ((y, o) :: ρ) x (fun d => (y, o) :: f d)
def Slots (K : PySem.W.Frag) (F : Hp) : Env → St → Prop
  | [], [] => True
  | (_, o) :: ρ, s :: σ => (∀ d, o = some d → ∃ v, s = some v ∧ Rep K F d v) ∧ Slots K F ρ σ
  | _, _ => False
section
variable {K : PySem.W.Frag} {F F' : Hp} {ρ : Env} {σ : St} {x : Str} {d : D}
theorem Slots.mono (e : Same F F') : ∀ {ρ : Env} {σ : St}, Slots K F ρ σ → Slots K F' ρ σ
  | [], [], _ => trivial
  | [], _ :: _, h => h.elim
  | _ :: _, [], h => h.elim
  | (_, _) :: _, _ :: _, ⟨h1, h2⟩ => ⟨fun d hd => let ⟨v, a, b⟩ := h1 d hd; ⟨v, a, b.mono e⟩, Slots.mono e h2⟩
theorem At.ix (a : At ρ x d) : ∃ i : Nat, (ρ.map (·.1))[i]? = some x ∧ ∀ (K : PySem.W.Frag) (F : Hp) (σ : St), Slots K F ρ σ → ∃ v, σ[i]? = some (some v) ∧ Rep K F d v := by
  induction a with
  | here =>
    refine ⟨0, rfl, fun K F σ h => ?_⟩
    cases σ with
    | nil => exact h.elim
    | cons s σ =>
      obtain ⟨v, e, r⟩ := h.1 _ rfl
      exact ⟨v, by rw [e]; rfl, r⟩
  | there _ ih =>
    obtain ⟨i, h1, h2⟩ := ih
    refine ⟨i + 1, by simpa using h1, fun K F σ h => ?_⟩
    cases σ with
    | nil => exact h.elim
    | cons s σ => obtain ⟨v, e, r⟩ := h2 K F σ h.2; exact ⟨v, by simpa using e, r⟩
theorem Put.ix {f : Option D → Env} (a : Put ρ x f) : ∃ i : Nat, (ρ.map (·.1))[i]? = some x ∧ (∀ o, (f o).map (·.1) = ρ.map (·.1)) ∧ ∀ (K : PySem.W.Frag) (F : Hp) (σ : St) (s : Option V) (o : Option D), Slots K F ρ σ → (∀ d, o = some d → ∃ v, s = some v ∧ Rep K F d v) → Slots K F (f o) (σ.set i s) := by
  induction a with
  | here =>
    refine ⟨0, rfl, fun _ => rfl, fun K F σ v o h r => ?_⟩
    cases σ with
    | nil => exact h.elim
    | cons s σ => exact ⟨r, h.2⟩
  | there _ ih =>
    obtain ⟨i, h1, h0, h2⟩ := ih
    refine ⟨i + 1, by simpa using h1, fun o => by simpa using h0 o, fun K F σ v o h r => ?_⟩
    cases σ with
    | nil => exact h.elim
    | cons s σ => exact ⟨h.1, h2 K F σ v o h.2 r⟩
end

/-! ### what is known of the code that runs -/
structure Cfg where
  P : Program
  w : World
  K : PySem.W.Frag
  mg : Str → Option Value
  base : Heap
  N : List Str
  sc : Scope
  k : Nat
  top : Str → Bool
  W : WX
structure Cfg.Has (c : Cfg) (X : Cx) : Prop where
  P : X.prog = c.P
  w : X.w = c.w
  K : X.K = c.K
  mg : X.mg = c.mg
  base : X.base = c.base
  N : X.N = c.N
  nd : X.N.Nodup
  sc : X.env.scope = c.sc
  calm : X.calm = true
  room : Room c.k X.A
  fn : ∀ x, c.top x = true → X.fn x = true
  tk : Takes X c.W
  po : PassesOwn (model X.prog X.w) X.A X.env X.xe
def noW : WX := fun _ _ _ _ => False
theorem takes_no {X : Cx} : Takes X noW := fun _ _ ⟨_, _, _, _, _, _, _, _, _, _, _, _, _, _, _, _, w⟩ => w.elim
abbrev EnvOk (c : Cfg) (ρ : Env) : Prop := ρ.map (·.1) = c.N ∧ c.N.Nodup
/-- an expression's reading, in data -/
def EvR (K : PySem.W.Frag) (t : TE) (ρ : Env) (M : Mem) (R : D → Mem → Prop) : Prop :=
  ∀ F σ H, Sit K F M H → Slots K F ρ σ → ∀ Q : VK, (∀ F' H' v d M', R d M' → Sit K F' M' H' → Go M F H M' F' H' → Rep K F' d v → Q v H') → t σ H Q
def EvT (K : PySem.W.Frag) (t : TT) (ρ : Env) (M : Mem) (R : Bool → Mem → Prop) : Prop :=
  ∀ F σ H, Sit K F M H → Slots K F ρ σ → ∀ Q : Bool → Hp → Prop, (∀ F' H' b M', R b M' → Sit K F' M' H' → Go M F H M' F' H' → Q b H') → t σ H Q
def EvA (K : PySem.W.Frag) (t : TA) (ρ : Env) (M : Mem) (R : List D → Mem → Prop) : Prop :=
  ∀ F σ H, Sit K F M H → Slots K F ρ σ → ∀ Q : List V → Hp → Prop, (∀ F' H' vs ds M', R ds M' → Sit K F' M' H' → Go M F H M' F' H' → Reps K F' ds vs → Q vs H') → t σ H Q
/-- e comes to data as R says -/
structure PN (c : Cfg) (e : Expr) (ρ : Env) (M : Mem) (R : D → Mem → Prop) : Prop where
  mk ::
  out : EnvOk c ρ → ∃ t, (∀ X, c.Has X → PE X e t) ∧ EvR c.K t ρ M R
structure PTn (c : Cfg) (e : Expr) (ρ : Env) (M : Mem) (R : Bool → Mem → Prop) : Prop where
  mk ::
  out : EnvOk c ρ → ∃ t, (∀ X, c.Has X → PT X e t) ∧ EvT c.K t ρ M R
structure PWn (c : Cfg) (e : Expr) (ρ : Env) (M : Mem) (R : Bool → Mem → Prop) : Prop where
  mk ::
  out : EnvOk c ρ → ∃ t, (∀ X, c.Has X → PW X e t) ∧ EvT c.K t ρ M R
structure PAn (c : Cfg) (es : List Expr) (ρ : Env) (M : Mem) (R : List D → Mem → Prop) : Prop where
  mk ::
  out : EnvOk c ρ → ∃ t, (∀ X, c.Has X → PA X es t) ∧ EvA c.K t ρ M R
/-- .. to d, leaving the memory M' -/
def is {α : Type} (d : α) (M' : Mem) : α → Mem → Prop := fun d' N => d' = d ∧ N = M'
abbrev PV (c : Cfg) (e : Expr) (ρ : Env) (M : Mem) (d : D) (M' : Mem) : Prop := PN c e ρ M (is d M')
abbrev PB (c : Cfg) (e : Expr) (ρ : Env) (M : Mem) (b : Bool) (M' : Mem) : Prop := PTn c e ρ M (is b M')
abbrev PBW (c : Cfg) (e : Expr) (ρ : Env) (M : Mem) (b : Bool) (M' : Mem) : Prop := PWn c e ρ M (is b M')
abbrev PAs (c : Cfg) (es : List Expr) (ρ : Env) (M : Mem) (ds : List D) (M' : Mem) : Prop := PAn c es ρ M (is ds M')
/-- behind a statement -/
structure Post where
  nx : Env → Mem → Prop
  rt : D → Mem → Prop
  bk : Env → Mem → Prop := fun _ _ => False
  ct : Env → Mem → Prop := fun _ _ => False
def After (K : PySem.W.Frag) (c : Cfg) (M : Mem) (F H : Hp) (N : Env → Mem → Prop) (n : St → Hp → Prop) : Prop :=
  ∀ F' H' ρ' σ' M', N ρ' M' → EnvOk c ρ' → Sit K F' M' H' → Slots K F' ρ' σ' → Go M F H M' F' H' → n σ' H'
def AfterV (K : PySem.W.Frag) (M : Mem) (F H : Hp) (R : D → Mem → Prop) (q : VK) : Prop :=
  ∀ F' H' v d M', R d M' → Sit K F' M' H' → Go M F H M' F' H' → Rep K F' d v → q v H'
structure Fits (c : Cfg) (M : Mem) (F H : Hp) (P : Post) (D : Ends) : Prop where
  nx : After c.K c M F H P.nx D.nx
  rt : AfterV c.K M F H P.rt D.rt
  bk : After c.K c M F H P.bk D.bk
  ct : After c.K c M F H P.ct D.ct
def EvS (c : Cfg) (t : TS) (ρ : Env) (M : Mem) (P : Post) : Prop :=
  ∀ F σ H, Sit c.K F M H → Slots c.K F ρ σ → ∀ D : Ends, Fits c M F H P D → t D σ H
structure PSn (c : Cfg) (st : Stmt) (ρ : Env) (M : Mem) (P : Post) : Prop where
  mk ::
  out : EnvOk c ρ → ∃ t, (∀ X, c.Has X → PS X st t) ∧ EvS c t ρ M P
structure PSsn (c : Cfg) (st : List Stmt) (ρ : Env) (M : Mem) (P : Post) : Prop where
  mk ::
  out : EnvOk c ρ → ∃ t, (∀ X, c.Has X → PSs X st t) ∧ EvS c t ρ M P
section
variable {K : PySem.W.Frag} {c : Cfg} {F F1 H H1 : Hp} {M M1 : Mem} {N : Env → Mem → Prop} {n : St → Hp → Prop} {R : D → Mem → Prop} {q : VK} {P : Post} {D : Ends}
theorem After.go (h : After K c M F H N n) (g : Go M F H M1 F1 H1) : After K c M1 F1 H1 N n := fun F' H' ρ' σ' M' a b s l g' => h F' H' ρ' σ' M' a b s l (g.trans g')
theorem AfterV.go (h : AfterV K M F H R q) (g : Go M F H M1 F1 H1) : AfterV K M1 F1 H1 R q := fun F' H' v d M' a s g' r => h F' H' v d M' a s (g.trans g') r
theorem Fits.go (h : Fits c M F H P D) (g : Go M F H M1 F1 H1) : Fits c M1 F1 H1 P D := ⟨h.nx.go g, h.rt.go g, h.bk.go g, h.ct.go g⟩
end
end Dl

set_option Elab.async false
set_option linter.all false
set_option maxRecDepth 100000
set_option maxHeartbeats 2000000
/-! Dl: C: expressions. -/
namespace Dl
open PySem PySem.Spec L2
section
variable {c : Cfg} {ρ ρ' : Env} {M M1 M2 M3 M' : Mem} {pos p2 p3 apos : Pos} {e a b i lo hi : Expr} {es : List Expr} {x y z d : D} {xs ys ds : List D} {n m : Int} {s t : List Nat}
/-! names, constants -/
theorem pv_name {nm : Str} (h : At ρ nm d) (hv : c.sc.names.lookup nm = some .local ∨ c.sc.names.lookup nm = some .cell ∨ c.sc.names.lookup nm = some .free := by first | exact Or.inl rfl | exact Or.inr (Or.inl rfl) | exact Or.inr (Or.inr rfl))
    (hd : (nm == ("__debug__" : Str)) = false := by decide) (hcd : (nm == ("__classdict__" : Str)) = false := by decide) : PV c (.Name nm pos) ρ M d M := .mk fun hE => by
  obtain ⟨i, h1, h2⟩ := h.ix
  refine ⟨tVar i, fun X hX => pe_var (by rw [hX.N, ← hE.1]; exact h1) (by rw [← hX.sc] at hv; exact hv) hd hcd, fun F σ H S L Q q => ?_⟩
  obtain ⟨v, e, r⟩ := h2 _ _ _ L
  exact ⟨v, e, q F H v d M ⟨rfl, rfl⟩ S Go.refl r⟩
theorem pv_int {k : Int} {j} : PV c (.Constant (.int k) j pos) ρ M (.int k) M := .mk fun _ => ⟨_, fun X _ => pe_int, fun F σ H S L Q q => q F H _ _ M ⟨rfl, rfl⟩ S Go.refl (rep_int.mpr rfl)⟩
theorem pv_bl {k : Bool} {j} : PV c (.Constant (.bool k) j pos) ρ M (.bl k) M := .mk fun _ => ⟨_, fun X _ => pe_bl, fun F σ H S L Q q => q F H _ _ M ⟨rfl, rfl⟩ S Go.refl (rep_bl.mpr rfl)⟩
theorem pv_non {j} : PV c (.Constant .none j pos) ρ M .non M := .mk fun _ => ⟨_, fun X _ => pe_non, fun F σ H S L Q q => q F H _ _ M ⟨rfl, rfl⟩ S Go.refl (rep_non.mpr rfl)⟩
theorem pv_str {k : Str} {j} : PV c (.Constant (.str k) j pos) ρ M (.str k.cps.toList) M := .mk fun _ => ⟨_, fun X _ => pe_str, fun F σ H S L Q q => q F H _ _ M ⟨rfl, rfl⟩ S Go.refl (rep_str.mpr (by rw [T_list]))⟩
abbrev GlC (c : Cfg) (nm : Str) : Prop := c.sc.names.lookup nm = some .globalImplicit
theorem GlC.gl {nm : Str} (h : GlC c nm) {X : Cx} (hX : c.Has X) : Gl X nm := by
  show X.env.scope.names.lookup nm = _
  rw [hX.sc]; exact h
theorem pv_gint {nm : Str} {k : Int} (hm : ∃ t, c.mg nm = some (.int k t)) (hg : GlC c nm := by rfl) (hd : (nm == ("__debug__" : Str)) = false := by decide) : PV c (.Name nm pos) ρ M (.int k) M := .mk fun _ => by
  obtain ⟨t, hm⟩ := hm
  exact ⟨tC (.int k), fun X hX => pe_glob (hg.gl hX) (by rw [hX.mg]; exact hm) ⟨_, rfl⟩ hd, fun F σ H S L Q q => q F H _ _ M ⟨rfl, rfl⟩ S Go.refl (rep_int.mpr rfl)⟩
theorem pv_gstr {nm k : Str} (hm : ∃ t, c.mg nm = some (.str k t)) (hg : GlC c nm := by rfl) (hd : (nm == ("__debug__" : Str)) = false := by decide) : PV c (.Name nm pos) ρ M (.str k.cps.toList) M := .mk fun _ => by
  obtain ⟨t, hm⟩ := hm
  exact ⟨tC (.str k), fun X hX => pe_glob (hg.gl hX) (by rw [hX.mg]; exact hm) ⟨_, rfl⟩ hd, fun F σ H S L Q q => q F H _ _ M ⟨rfl, rfl⟩ S Go.refl (rep_str.mpr (by rw [T_list]))⟩
/-! one behind another -/
theorem ev2 {K : PySem.W.Frag} {ta tb : TE} {R1 : D → Mem → Prop} {k : V → V → Hp → VK → Prop} {R : D → Mem → Prop} (ha : EvR K ta ρ M R1) (hb : ∀ x M1, R1 x M1 → EvR K tb ρ M1 (is y M2))
    (hk : ∀ F H v w x, (∃ M1, R1 x M1) → Sit K F M2 H → Rep K F x v → Rep K F y w → ∀ Q : VK, (∀ F' H' u d M', R d M' → Sit K F' M' H' → Go M2 F H M' F' H' → Rep K F' d u → Q u H') → k v w H Q) :
    EvR K (fun σ H Q => ta σ H fun v H1 => tb σ H1 fun w H2 => k v w H2 Q) ρ M R := fun F σ H S L Q q => by
  refine ha F σ H S L _ fun F1 H1 v x M1 r1 S1 g1 p1 => ?_
  refine hb x M1 r1 F1 σ H1 S1 (L.mono g1.ff) _ fun F2 H2 w y' M2' ⟨e1, e2⟩ S2 g2 p2 => ?_
  subst e1 e2
  exact hk F2 H2 v w x ⟨M1, r1⟩ S2 (p1.mono g2.ff) p2 Q fun F' H' u d M' rd S' g' p' => q F' H' u d M' rd S' ((g1.trans g2).trans g') p'
/-- a two-place operation on data -/
def OpD (c : Cfg) (f : Value → Value → Sem Value) (x y : D) (M : Mem) (z : D) (M' : Mem) : Prop :=
  ∃ r : R2, (∀ X, c.Has X → OpR X f r) ∧ ∀ F H v w, Sit c.K F M H → Rep c.K F x v → Rep c.K F y w → ∀ Q : VK, (∀ F' H' u, Sit c.K F' M' H' → Go M F H M' F' H' → Rep c.K F' z u → Q u H') → r v w H Q
theorem OpD.of {f : Value → Value → Sem Value} {r : R2} (h : ∀ X, c.Has X → OpR X f r) (k : ∀ F H v w, Sit c.K F M H → Rep c.K F x v → Rep c.K F y w → ∃ u, Rep c.K F z u ∧ ∀ Q : VK, Q u H → r v w H Q) : OpD c f x y M z M :=
  ⟨r, h, fun F H v w S a b Q q => let ⟨u, r1, r2⟩ := k F H v w S a b; r2 Q (q F H u S Go.refl r1)⟩
structure BinD (c : Cfg) (op : Operator) (x y : D) (M : Mem) (z : D) (M' : Mem) : Prop where
  mk ::
  out : OpD c (binaryOp op) x y M z M'
structure CmpD (c : Cfg) (op : CmpOp) (x y : D) (M : Mem) (z : D) (M' : Mem) : Prop where
  mk ::
  out : OpD c (compareOp op) x y M z M'
theorem pv_bin {op : Operator} (ha : PV c a ρ M x M1) (hb : PV c b ρ M1 y M2) (ho : BinD c op x y M2 z M3) : PV c (.BinOp a op b pos) ρ M z M3 := .mk fun hE => by
  obtain ⟨ta, a1, a2⟩ := ha.out hE
  obtain ⟨tb, b1, b2⟩ := hb.out hE
  obtain ⟨r, o1, o2⟩ := ho.out
  refine ⟨tOp r ta tb, fun X hX => pe_op (o1 X hX) (a1 X hX) (b1 X hX), ev2 a2 (fun _ _ ⟨_, e⟩ => e ▸ b2) fun F H v w x' ⟨_, e, _⟩ S p1 p2 Q q => ?_⟩
  subst e
  exact o2 F H v w S p1 p2 Q fun F' H' u S' g' p' => q F' H' u _ _ ⟨rfl, rfl⟩ S' g' p'
theorem pv_cmp {op : CmpOp} (ha : PV c a ρ M x M1) (hb : PV c b ρ M1 y M2) (ho : CmpD c op x y M2 z M3) (hm : behindInMarks op b = false := by first | exact nomark _ | rfl) : PV c (.Compare a [op] [b] pos) ρ M z M3 := .mk fun hE => by
  obtain ⟨ta, a1, a2⟩ := ha.out hE
  obtain ⟨tb, b1, b2⟩ := hb.out hE
  obtain ⟨r, o1, o2⟩ := ho.out
  refine ⟨tOp r ta tb, fun X hX => pe_cmpR (o1 X hX) (a1 X hX) (b1 X hX) hm, ev2 a2 (fun _ _ ⟨_, e⟩ => e ▸ b2) fun F H v w x' ⟨_, e, _⟩ S p1 p2 Q q => ?_⟩
  subst e
  exact o2 F H v w S p1 p2 Q fun F' H' u S' g' p' => q F' H' u _ _ ⟨rfl, rfl⟩ S' g' p'
theorem pb_cmp {op : CmpOp} {k : Bool} (ha : PV c a ρ M x M1) (hb : PV c b ρ M1 y M2) (ho : CmpD c op x y M2 (.bl k) M3) (hm : behindInMarks op b = false := by first | exact nomark _ | rfl) : PB c (.Compare a [op] [b] pos) ρ M k M3 := .mk fun hE => by
  obtain ⟨ta, a1, a2⟩ := ha.out hE
  obtain ⟨tb, b1, b2⟩ := hb.out hE
  obtain ⟨r, o1, o2⟩ := ho.out
  refine ⟨tTest (tOp r ta tb), fun X hX => pt_cmpR (o1 X hX) (a1 X hX) (b1 X hX) hm, fun F σ H S L Q q => ?_⟩
  refine a2 F σ H S L _ fun F1 H1 v x' M1' ⟨e1, e2⟩ S1 g1 p1 => ?_
  subst e1 e2
  refine b2 F1 σ H1 S1 (L.mono g1.ff) _ fun F2 H2 w y' M2' ⟨e1, e2⟩ S2 g2 p2 => ?_
  subst e1 e2
  exact o2 F2 H2 v w S2 (p1.mono g2.ff) p2 _ fun F' H' u S' g' p' => ⟨k, rep_bl.mp p', q F' H' k _ ⟨rfl, rfl⟩ S' ((g1.trans g2).trans g')⟩
/-! operations -/
theorem o_add : BinD c .Add (.int n) (.int m) M (.int (n + m)) M := .mk <| .of (fun X _ => op_add) fun F H v w S a b => ⟨_, rep_int.mpr rfl, fun Q q => ⟨n, m, rep_int.mp a, rep_int.mp b, q⟩⟩
theorem o_sub : BinD c .Sub (.int n) (.int m) M (.int (n - m)) M := .mk <| .of (fun X _ => op_sub) fun F H v w S a b => ⟨_, rep_int.mpr rfl, fun Q q => ⟨n, m, rep_int.mp a, rep_int.mp b, q⟩⟩
theorem o_mul (h : CMul n m) : BinD c .Mult (.int n) (.int m) M (.int (n * m)) M := .mk <| .of (fun X _ => op_mul) fun F H v w S a b => ⟨_, rep_int.mpr rfl, fun Q q => ⟨n, m, rep_int.mp a, rep_int.mp b, h, q⟩⟩
theorem o_mod (h : m ≠ 0) : BinD c .Mod (.int n) (.int m) M (.int (n.fmod m)) M := .mk <| .of (fun X _ => op_modN) fun F H v w S a b => ⟨_, rep_int.mpr rfl, fun Q q => ⟨n, m, rep_int.mp a, rep_int.mp b, h, q⟩⟩
theorem o_fdiv (h : CDivN n m) : BinD c .FloorDiv (.int n) (.int m) M (.int (n.fdiv m)) M := .mk <| .of (fun X _ => op_fdivN) fun F H v w S a b => ⟨_, rep_int.mpr rfl, fun Q q => ⟨n, m, rep_int.mp a, rep_int.mp b, h, q⟩⟩
theorem o_pow (h : CPow n m) : BinD c .Pow (.int n) (.int m) M (.int (n ^ m.toNat)) M := .mk <| .of (fun X _ => op_pow) fun F H v w S a b => ⟨_, rep_int.mpr rfl, fun Q q => ⟨n, m, rep_int.mp a, rep_int.mp b, h, q⟩⟩
theorem o_cat (h : s.length + t.length ≤ sizeLine) : BinD c .Add (.str s) (.str t) M (.str (s ++ t)) M := .mk <| .of (fun X _ => op_add_str) fun F H v w S a b => ⟨_, rep_str.mpr rfl, fun Q q => ⟨T s, T t, rep_str.mp a, rep_str.mp b, by rw [T_len, T_len]; exact h, by
    have : T s ++ T t = T (s ++ t) := by show (⟨s.toArray ++ t.toArray⟩ : Str) = _; simp
    rw [this]; exact q⟩⟩
theorem o_lt : CmpD c .Lt (.int n) (.int m) M (.bl (decide (n < m))) M := .mk <| .of (fun X _ => op_lt) fun F H v w S a b => ⟨_, rep_bl.mpr rfl, fun Q q => ⟨n, m, rep_int.mp a, rep_int.mp b, q⟩⟩
theorem o_le : CmpD c .LtE (.int n) (.int m) M (.bl (decide (n ≤ m))) M := .mk <| .of (fun X _ => op_le) fun F H v w S a b => ⟨_, rep_bl.mpr rfl, fun Q q => ⟨n, m, rep_int.mp a, rep_int.mp b, q⟩⟩
theorem o_gt : CmpD c .Gt (.int n) (.int m) M (.bl (decide (m < n))) M := .mk <| .of (fun X _ => op_gt) fun F H v w S a b => ⟨_, rep_bl.mpr rfl, fun Q q => ⟨n, m, rep_int.mp a, rep_int.mp b, q⟩⟩
theorem o_ge : CmpD c .GtE (.int n) (.int m) M (.bl (decide (m ≤ n))) M := .mk <| .of (fun X _ => op_ge) fun F H v w S a b => ⟨_, rep_bl.mpr rfl, fun Q q => ⟨n, m, rep_int.mp a, rep_int.mp b, q⟩⟩
theorem o_eqI : CmpD c .Eq (.int n) (.int m) M (.bl (decide (n = m))) M := .mk <| .of (fun X _ => op_eq) fun F H v w S a b => ⟨_, rep_bl.mpr rfl, fun Q q => by
  rw [rep_int.mp a, rep_int.mp b]; exact ⟨rfl, by simpa using q⟩⟩
theorem o_neI : CmpD c .NotEq (.int n) (.int m) M (.bl (!decide (n = m))) M := .mk <| .of (fun X _ => op_ne) fun F H v w S a b => ⟨_, rep_bl.mpr rfl, fun Q q => by
  rw [rep_int.mp a, rep_int.mp b]; exact ⟨rfl, by simpa using q⟩⟩
theorem T_eq : (T s = T t) = (s = t) := propext ⟨T_inj, congrArg T⟩
theorem o_eqS : CmpD c .Eq (.str s) (.str t) M (.bl (decide (s = t))) M := .mk <| .of (fun X _ => op_eq) fun F H v w S a b => ⟨_, rep_bl.mpr rfl, fun Q q => by
  rw [rep_str.mp a, rep_str.mp b]; refine ⟨rfl, ?_⟩
  have : decide (V.str (T s) = V.str (T t)) = decide (s = t) := by simp only [V.str.injEq, T_eq]
  rw [this]; exact q⟩
theorem o_neS : CmpD c .NotEq (.str s) (.str t) M (.bl (!decide (s = t))) M := .mk <| .of (fun X _ => op_ne) fun F H v w S a b => ⟨_, rep_bl.mpr rfl, fun Q q => by
  rw [rep_str.mp a, rep_str.mp b]; refine ⟨rfl, ?_⟩
  have : decide (V.str (T s) = V.str (T t)) = decide (s = t) := by simp only [V.str.injEq, T_eq]
  rw [this]; exact q⟩
theorem o_eqB {p q : Bool} : CmpD c .Eq (.bl p) (.bl q) M (.bl (decide (p = q))) M := .mk <| .of (fun X _ => op_eq) fun F H v w S a b => ⟨_, rep_bl.mpr rfl, fun Q q => by
  rw [rep_bl.mp a, rep_bl.mp b]; exact ⟨rfl, by simpa using q⟩⟩
theorem o_neB {p q : Bool} : CmpD c .NotEq (.bl p) (.bl q) M (.bl (!decide (p = q))) M := .mk <| .of (fun X _ => op_ne) fun F H v w S a b => ⟨_, rep_bl.mpr rfl, fun Q q => by
  rw [rep_bl.mp a, rep_bl.mp b]; exact ⟨rfl, by simpa using q⟩⟩
theorem o_ltS : CmpD c .Lt (.str s) (.str t) M (.bl (decide (s < t))) M := .mk <| .of (fun X _ => op_lt_str) fun F H v w S a b => ⟨_, rep_bl.mpr rfl, fun Q q => ⟨_, _, rep_str.mp a, rep_str.mp b, q⟩⟩
/-- one sign in a text -/
theorem o_inS {k : Nat} : CmpD c .In (.str [k]) (.str t) M (.bl (decide (k ∈ t))) M := .mk <| .of (fun X _ => op_in_sign) fun F H v w S a b => ⟨_, rep_bl.mpr rfl, fun Q q => ⟨k, T t, rep_str.mp a, rep_str.mp b, q⟩⟩
theorem o_ninS {k : Nat} : CmpD c .NotIn (.str [k]) (.str t) M (.bl (!decide (k ∈ t))) M := .mk <| .of (fun X _ => op_notIn_sign) fun F H v w S a b => ⟨_, rep_bl.mpr rfl, fun Q q => ⟨k, T t, rep_str.mp a, rep_str.mp b, q⟩⟩
/-! unary, tests -/
theorem pv_neg (ha : PV c a ρ M (.int n) M1) : PV c (.UnaryOp .USub a pos) ρ M (.int (-n)) M1 := .mk fun hE => by
  obtain ⟨ta, a1, a2⟩ := ha.out hE
  refine ⟨tUn (rU fun i => .int (-i)) ta, fun X hX => pe_un un_neg (a1 X hX), fun F σ H S L Q q => a2 F σ H S L _ fun F1 H1 v x M1' ⟨e1, e2⟩ S1 g1 p1 => ?_⟩
  subst e1 e2
  exact ⟨n, rep_int.mp p1, q F1 H1 _ _ _ ⟨rfl, rfl⟩ S1 g1 (rep_int.mpr rfl)⟩
/-- an expression that gives True or False, as a test -/
theorem pb_val {k : Bool} (h : PV c e ρ M (.bl k) M1) (he : ∀ (env : PySem.Env) whole, isTrue e env whole = (do let v ← whole; standAt e.pos; holding [v] (truthy v)) := by intro _ _; rfl) : PB c e ρ M k M1 := .mk fun hE => by
  obtain ⟨t, a1, a2⟩ := h.out hE
  refine ⟨tB t, fun X hX => pt_val (a1 X hX) (he _), fun F σ H S L Q q => a2 F σ H S L _ fun F1 H1 v x M1' ⟨e1, e2⟩ S1 g1 p1 => ?_⟩
  subst e1 e2
  exact ⟨k, rep_bl.mp p1, q F1 H1 _ _ ⟨rfl, rfl⟩ S1 g1⟩
theorem pb_not {k : Bool} (h : PB c a ρ M k M1) : PB c (.UnaryOp .Not a pos) ρ M (!k) M1 := .mk fun hE => by
  obtain ⟨t, a1, a2⟩ := h.out hE
  refine ⟨tNot t, fun X hX => pt_not (a1 X hX), fun F σ H S L Q q => a2 F σ H S L _ fun F1 H1 b M1' ⟨e1, e2⟩ S1 g1 => ?_⟩
  subst e1 e2
  exact q F1 H1 _ _ ⟨rfl, rfl⟩ S1 g1
theorem pv_not {k : Bool} (h : PV c a ρ M (.bl k) M1) : PV c (.UnaryOp .Not a pos) ρ M (.bl (!k)) M1 := .mk fun hE => by
  obtain ⟨t, a1, a2⟩ := h.out hE
  refine ⟨tNotV t, fun X hX => pe_not (a1 X hX), fun F σ H S L Q q => a2 F σ H S L _ fun F1 H1 v x M1' ⟨e1, e2⟩ S1 g1 p1 => ?_⟩
  subst e1 e2
  exact ⟨k, rep_bl.mp p1, q F1 H1 _ _ _ ⟨rfl, rfl⟩ S1 g1 (rep_bl.mpr rfl)⟩
theorem pw_a1 {k : Bool} (h : PB c a ρ M k M1) : PBW c (.BoolOp .And [a] pos) ρ M k M1 := .mk fun hE => let ⟨t, a1, a2⟩ := h.out hE; ⟨t, fun X hX => pw_and1 (a1 X hX), a2⟩
theorem pw_o1 {k : Bool} (h : PB c a ρ M k M1) : PBW c (.BoolOp .Or [a] pos) ρ M k M1 := .mk fun hE => let ⟨t, a1, a2⟩ := h.out hE; ⟨t, fun X hX => pw_or1 (a1 X hX), a2⟩
theorem evT_and {K : PySem.W.Frag} {ta tb : TT} {k j : Bool} (ha : EvT K ta ρ M (is k M1)) (hb : k = true → EvT K tb ρ M1 (is j M1)) : EvT K (tAnd ta tb) ρ M (is (k && j) M1) := fun F σ H S L Q q => by
  refine ha F σ H S L _ fun F1 H1 b M1' ⟨e1, e2⟩ S1 g1 => ?_
  subst e1 e2
  cases b with
  | false => exact q F1 H1 _ _ ⟨by simp, rfl⟩ S1 g1
  | true =>
    show tb σ H1 Q
    exact hb rfl F1 σ H1 S1 (L.mono g1.ff) Q fun F2 H2 b M2 ⟨e1, e2⟩ S2 g2 => q F2 H2 b M2 ⟨by rw [e1]; simp, e2⟩ S2 (g1.trans g2)
theorem evT_or {K : PySem.W.Frag} {ta tb : TT} {k j : Bool} (ha : EvT K ta ρ M (is k M1)) (hb : k = false → EvT K tb ρ M1 (is j M1)) : EvT K (tOr ta tb) ρ M (is (k || j) M1) := fun F σ H S L Q q => by
  refine ha F σ H S L _ fun F1 H1 b M1' ⟨e1, e2⟩ S1 g1 => ?_
  subst e1 e2
  cases b with
  | true => exact q F1 H1 _ _ ⟨by simp, rfl⟩ S1 g1
  | false =>
    show tb σ H1 Q
    exact hb rfl F1 σ H1 S1 (L.mono g1.ff) Q fun F2 H2 b M2 ⟨e1, e2⟩ S2 g2 => q F2 H2 b M2 ⟨by rw [e1]; simp, e2⟩ S2 (g1.trans g2)
theorem pw_no {X : Cx} : PW X e (fun _ _ _ => False) := ⟨fun _ _ _ _ _ _ _ h => h.elim⟩
theorem pt_no {X : Cx} : PT X e (fun _ _ _ => False) := ⟨fun _ _ _ _ _ _ h => h.elim⟩
theorem pe_no {X : Cx} : PE X e (fun _ _ _ => False) := ⟨fun _ _ _ _ _ _ h => h.elim⟩
theorem pw_and' {k j : Bool} (ha : PB c a ρ M k M1) (hb : k = true → PBW c (.BoolOp .And (b :: es) pos) ρ M1 j M1) : PBW c (.BoolOp .And (a :: b :: es) pos) ρ M (k && j) M1 := .mk fun hE => by
  obtain ⟨ta, a1, a2⟩ := ha.out hE
  cases k with
  | false => exact ⟨tAnd ta _, fun X hX => pw_and (a1 X hX) pw_no, evT_and a2 fun z => by cases z⟩
  | true =>
    obtain ⟨tb, b1, b2⟩ := (hb rfl).out hE
    exact ⟨tAnd ta tb, fun X hX => pw_and (a1 X hX) (b1 X hX), evT_and a2 fun _ => b2⟩
theorem pw_or' {k j : Bool} (ha : PB c a ρ M k M1) (hb : k = false → PBW c (.BoolOp .Or (b :: es) pos) ρ M1 j M1) : PBW c (.BoolOp .Or (a :: b :: es) pos) ρ M (k || j) M1 := .mk fun hE => by
  obtain ⟨ta, a1, a2⟩ := ha.out hE
  cases k with
  | true => exact ⟨tOr ta _, fun X hX => pw_or (a1 X hX) pw_no, evT_or a2 fun z => by cases z⟩
  | false =>
    obtain ⟨tb, b1, b2⟩ := (hb rfl).out hE
    exact ⟨tOr ta tb, fun X hX => pw_or (a1 X hX) (b1 X hX), evT_or a2 fun _ => b2⟩
theorem pb_w {k : Bool} (h : PBW c e ρ M k M1) : PB c e ρ M k M1 := .mk fun hE => let ⟨t, a1, a2⟩ := h.out hE; ⟨t, fun X hX => (a1 X hX).pt, a2⟩
theorem pv_one {op} (h : PV c a ρ M d M1) : PV c (.BoolOp op [a] pos) ρ M d M1 := .mk fun hE => let ⟨t, a1, a2⟩ := h.out hE; ⟨t, fun X hX => pe_one (a1 X hX), a2⟩
/-- and, or as values: True and False -/
theorem pv_and {k j : Bool} (ha : PV c a ρ M (.bl k) M1) (hb : k = true → PV c (.BoolOp .And (b :: es) pos) ρ M1 (.bl j) M1) : PV c (.BoolOp .And (a :: b :: es) pos) ρ M (.bl (k && j)) M1 := .mk fun hE => by
  obtain ⟨ta, a1, a2⟩ := ha.out hE
  cases k with
  | false =>
    refine ⟨tAndV ta _, fun X hX => pe_and (a1 X hX) pe_no, fun F σ H S L Q q => a2 F σ H S L _ fun F1 H1 v x M1' ⟨e1, e2⟩ S1 g1 p1 => ?_⟩
    subst e1 e2
    exact ⟨false, rep_bl.mp p1, q F1 H1 _ _ _ ⟨rfl, rfl⟩ S1 g1 (rep_bl.mpr rfl)⟩
  | true =>
    obtain ⟨tb, b1, b2⟩ := (hb rfl).out hE
    refine ⟨tAndV ta tb, fun X hX => pe_and (a1 X hX) (b1 X hX), fun F σ H S L Q q => a2 F σ H S L _ fun F1 H1 v x M1' ⟨e1, e2⟩ S1 g1 p1 => ?_⟩
    subst e1 e2
    exact ⟨true, rep_bl.mp p1, b2 F1 σ H1 S1 (L.mono g1.ff) Q fun F2 H2 v x M2 ⟨e1, e2⟩ S2 g2 p2 => q F2 H2 v x M2 ⟨by rw [e1]; simp, e2⟩ S2 (g1.trans g2) p2⟩
theorem pv_or {k j : Bool} (ha : PV c a ρ M (.bl k) M1) (hb : k = false → PV c (.BoolOp .Or (b :: es) pos) ρ M1 (.bl j) M1) : PV c (.BoolOp .Or (a :: b :: es) pos) ρ M (.bl (k || j)) M1 := .mk fun hE => by
  obtain ⟨ta, a1, a2⟩ := ha.out hE
  cases k with
  | true =>
    refine ⟨tOrV ta _, fun X hX => pe_or (a1 X hX) pe_no, fun F σ H S L Q q => a2 F σ H S L _ fun F1 H1 v x M1' ⟨e1, e2⟩ S1 g1 p1 => ?_⟩
    subst e1 e2
    exact ⟨true, rep_bl.mp p1, q F1 H1 _ _ _ ⟨rfl, rfl⟩ S1 g1 (rep_bl.mpr rfl)⟩
  | false =>
    obtain ⟨tb, b1, b2⟩ := (hb rfl).out hE
    refine ⟨tOrV ta tb, fun X hX => pe_or (a1 X hX) (b1 X hX), fun F σ H S L Q q => a2 F σ H S L _ fun F1 H1 v x M1' ⟨e1, e2⟩ S1 g1 p1 => ?_⟩
    subst e1 e2
    exact ⟨false, rep_bl.mp p1, b2 F1 σ H1 S1 (L.mono g1.ff) Q fun F2 H2 v x M2 ⟨e1, e2⟩ S2 g2 p2 => q F2 H2 v x M2 ⟨by rw [e1]; simp, e2⟩ S2 (g1.trans g2) p2⟩
/-- a if t else b: the way that is not gone is not looked at -/
theorem pv_if {k : Bool} {tt : Expr} (ht : PB c tt ρ M k M1) (ha : k = true → PV c a ρ M1 x M2) (hb : k = false → PV c b ρ M1 x M2) : PV c (.IfExp tt a b pos) ρ M x M2 := .mk fun hE => by
  obtain ⟨t, t1, t2⟩ := ht.out hE
  cases k with
  | true =>
    obtain ⟨ta, a1, a2⟩ := (ha rfl).out hE
    refine ⟨tIf t ta _, fun X hX => pe_ifExp (t1 X hX) (a1 X hX) pe_no, fun F σ H S L Q q => t2 F σ H S L _ fun F1 H1 b M1' ⟨e1, e2⟩ S1 g1 => ?_⟩
    subst e1 e2
    exact a2 F1 σ H1 S1 (L.mono g1.ff) Q fun F2 H2 v x M2 e S2 g2 p2 => q F2 H2 v x M2 e S2 (g1.trans g2) p2
  | false =>
    obtain ⟨tb, a1, a2⟩ := (hb rfl).out hE
    refine ⟨tIf t _ tb, fun X hX => pe_ifExp (t1 X hX) pe_no (a1 X hX), fun F σ H S L Q q => t2 F σ H S L _ fun F1 H1 b M1' ⟨e1, e2⟩ S1 g1 => ?_⟩
    subst e1 e2
    exact a2 F1 σ H1 S1 (L.mono g1.ff) Q fun F2 H2 v x M2 e S2 g2 p2 => q F2 H2 v x M2 e S2 (g1.trans g2) p2
/-! argument lists, displays -/
theorem pas_nil : PAs c [] ρ M [] M := .mk fun _ => ⟨tNil, fun X _ => pa_nil, fun F σ H S L Q q => q F H [] _ M ⟨rfl, rfl⟩ S Go.refl (reps_nil.mpr rfl)⟩
theorem pas_cons (ha : PV c e ρ M d M1) (hr : PAs c es ρ M1 ds M2) (hs : ∀ env : PySem.Env, starEach (e :: es) env = (false, eval e env) :: starEach es env := by intro _; rfl) : PAs c (e :: es) ρ M (d :: ds) M2 := .mk fun hE => by
  obtain ⟨ta, a1, a2⟩ := ha.out hE
  obtain ⟨tr, b1, b2⟩ := hr.out hE
  refine ⟨tCons ta tr, fun X hX => pa_cons (a1 X hX) (b1 X hX) (hs _), fun F σ H S L Q q => a2 F σ H S L _ fun F1 H1 v x M1' ⟨e1, e2⟩ S1 g1 p1 => ?_⟩
  subst e1 e2
  refine b2 F1 σ H1 S1 (L.mono g1.ff) _ fun F2 H2 vs ds' M2' ⟨e1, e2⟩ S2 g2 p2 => ?_
  subst e1 e2
  exact q F2 H2 _ _ _ ⟨rfl, rfl⟩ S2 (g1.trans g2) (reps_cons.mpr ⟨_, _, rfl, p1.mono g2.ff, p2⟩)
theorem pv_tup {x1} (h : PAs c es ρ M ds M1) (hl : ds.length ≤ sizeLine := by decide) : PV c (.Tuple es x1 pos) ρ M (.tup ds) M1 := .mk fun hE => by
  obtain ⟨t, a1, a2⟩ := h.out hE
  refine ⟨tTup t, fun X hX => pe_tup (a1 X hX), fun F σ H S L Q q => a2 F σ H S L _ fun F1 H1 vs ds' M1' ⟨e1, e2⟩ S1 g1 p1 => ?_⟩
  subst e1 e2
  refine ⟨by rw [p1.len]; exact hl, fun p hp => ?_⟩
  obtain ⟨S2, g2⟩ := S1.new (o := .tup vs) hp
  exact q _ _ _ _ _ ⟨rfl, rfl⟩ S2 (g1.trans g2) (rep_tup.mpr ⟨p, vs, rfl, SqT.of upd_same, p1.mono g2.ff⟩)
theorem pv_lst (h : PAs c es ρ M ds M1) (hl : ds.length ≤ sizeLine := by decide) : PV c (.List es pos) ρ M (.lst ds) M1 := .mk fun hE => by
  obtain ⟨t, a1, a2⟩ := h.out hE
  refine ⟨tLst t, fun X hX => pe_lst (a1 X hX), fun F σ H S L Q q => a2 F σ H S L _ fun F1 H1 vs ds' M1' ⟨e1, e2⟩ S1 g1 p1 => ?_⟩
  subst e1 e2
  refine ⟨by rw [p1.len]; exact hl, fun p hp => ?_⟩
  obtain ⟨S2, g2⟩ := S1.new (o := .lst vs) hp
  exact q _ _ _ _ _ ⟨rfl, rfl⟩ S2 (g1.trans g2) (rep_lst.mpr ⟨p, vs, rfl, upd_same, p1.mono g2.ff⟩)
/-- a list that will change -/
theorem pn_lst (h : PAs c es ρ M ds M1) (hl : ds.length ≤ sizeLine := by decide) : PN c (.List es pos) ρ M (fun d N => ∃ p, d = .ref p ∧ N = (p, .lst ds) :: M1) := .mk fun hE => by
  obtain ⟨t, a1, a2⟩ := h.out hE
  refine ⟨tLst t, fun X hX => pe_lst (a1 X hX), fun F σ H S L Q q => a2 F σ H S L _ fun F1 H1 vs ds' M1' ⟨e1, e2⟩ S1 g1 p1 => ?_⟩
  subst e1 e2
  refine ⟨by rw [p1.len]; exact hl, fun p hp => ?_⟩
  obtain ⟨S2, g2⟩ := S1.newM (o := .lst ds') hp ⟨vs, rfl, p1⟩
  exact q _ _ _ _ _ ⟨p, rfl, rfl⟩ S2 (g1.trans g2) (rep_ref.mpr rfl)
/-- a dict that will change, its keys ints and texts -/
theorem pn_dct : PN c (.Dict [] [] pos) ρ M (fun d N => ∃ p, d = .ref p ∧ N = (p, .dK []) :: M) := .mk fun hE =>
  ⟨tDNewK, fun X _ => pe_dnewK, fun F σ H S L Q q p hp => by
    obtain ⟨S2, g2⟩ := S.newM (o := .dK []) hp ⟨[], rfl, repK_nil.mpr rfl⟩
    exact q _ _ _ _ _ ⟨p, rfl, rfl⟩ S2 g2 (rep_ref.mpr rfl)⟩
end
end Dl

set_option Elab.async false
set_option linter.all false
set_option maxRecDepth 100000
set_option maxHeartbeats 2000000
/-! Dl: D: fields, subscripts, slices, built-ins. -/
namespace Dl
open PySem PySem.Spec L2
/-- a field may be read -/
class FlK (K : PySem.W.Frag) (mg : Str → Option Value) (C : Addr) (f : Str) : Prop where
  cls : Cls K C
  no : NoAttr K C f
class BltF (K : PySem.W.Frag) (mg : Str → Option Value) (x : Str) : Prop where
  no : mg x = none
section
variable {c : Cfg} {ρ ρ' : Env} {M M1 M2 M3 M' : Mem} {pos p2 p3 apos cpos : Pos} {e a b i lo hi : Expr} {es : List Expr} {x y z d : D} {xs ys ds : List D} {n m : Int} {s t : List Nat}
theorem RepF.look {K : PySem.W.Frag} {F : Hp} {f : Str} : ∀ {fs : List (Str × D)} {ws : List (Str × V)}, RepF K F fs ws → (match fs.lookup f with | some x => ∃ v, ws.lookup f = some v ∧ Rep K F x v | none => ws.lookup f = none)
  | [], _, h => by rw [repF_nil.mp h]; rfl
  | (g, x) :: fs, _, h => by
    obtain ⟨v, r, rfl, h1, h2⟩ := repF_cons.mp h
    rw [List.lookup_cons, List.lookup_cons]
    cases (f == g) with
    | true => exact ⟨v, rfl, h1⟩
    | false => exact RepF.look h2
theorem RepF.look_some {K : PySem.W.Frag} {F : Hp} {f : Str} {fs : List (Str × D)} {ws : List (Str × V)} (h : RepF K F fs ws) (e : fs.lookup f = some x) : ∃ v, ws.lookup f = some v ∧ Rep K F x v := by
  have q := RepF.look (f := f) h; rw [e] at q; exact q
theorem RepF.look_none {K : PySem.W.Frag} {F : Hp} {f : Str} {fs : List (Str × D)} {ws : List (Str × V)} (h : RepF K F fs ws) (e : fs.lookup f = none) : ws.lookup f = none := by
  have q := RepF.look (f := f) h; rw [e] at q; exact q
theorem RepF.len {K : PySem.W.Frag} {F : Hp} : ∀ {fs : List (Str × D)} {ws : List (Str × V)}, RepF K F fs ws → ws.length = fs.length
  | [], _, h => by rw [repF_nil.mp h] <;> rfl
  | (_, _) :: _, _, h => by obtain ⟨v, r, rfl, _, h2⟩ := repF_cons.mp h; simp [RepF.len h2]
theorem pv_fld {C : Addr} {fs : List (Str × D)} {f : Str} (h : PV c e ρ M (.obj C fs) M1) (k : FlK c.K c.mg C f) (hl : fs.lookup f = some d) (hb : ∀ env : PySem.Env, attributeBase e f env (eval e env) = eval e env := by intro _; rfl) : PV c (.Attribute e f pos) ρ M d M1 := .mk fun hE => by
  obtain ⟨t, a1, a2⟩ := h.out hE
  refine ⟨tFld c.K t f, fun X hX => by rw [← hX.K]; exact pe_fld (a1 X hX) (hb _), fun F σ H S L Q q => a2 F σ H S L _ fun F1 H1 v x M1' ⟨e1, e2⟩ S1 g1 p1 => ?_⟩
  subst e1 e2
  obtain ⟨p, dx, ws, rfl, hp, r⟩ := rep_obj.mp p1
  obtain ⟨v, l, rv⟩ := r.look_some hl
  exact ⟨p, C, dx, ws, v, rfl, S1.fh _ _ hp, k.cls, k.no, l, q F1 H1 _ _ _ ⟨rfl, rfl⟩ S1 g1 rv⟩
/-- .. of an object that may change -/
theorem pv_fldM {C p : Addr} {fs : List (Str × D)} {f : Str} (h : PV c e ρ M (.ref p) M1) (hm : MAt M1 p (.ins C fs)) (k : FlK c.K c.mg C f) (hl : fs.lookup f = some d) (hb : ∀ env : PySem.Env, attributeBase e f env (eval e env) = eval e env := by intro _; rfl) : PV c (.Attribute e f pos) ρ M d M1 := .mk fun hE => by
  obtain ⟨t, a1, a2⟩ := h.out hE
  refine ⟨tFld c.K t f, fun X hX => by rw [← hX.K]; exact pe_fld (a1 X hX) (hb _), fun F σ H S L Q q => a2 F σ H S L _ fun F1 H1 v x M1' ⟨e1, e2⟩ S1 g1 p1 => ?_⟩
  subst e1 e2
  have ep := rep_ref.mp p1
  subst ep
  obtain ⟨_, u, hu, dx, ws, rfl, r⟩ := hm.get S1.ok
  obtain ⟨v, l, rv⟩ := r.look_some hl
  exact ⟨p, C, dx, ws, v, rfl, hu, k.cls, k.no, l, q F1 H1 _ _ _ ⟨rfl, rfl⟩ S1 g1 rv⟩
/-! subscripts -/
theorem pv_ix {C : V → V → Hp → VK → Prop} (ha : PV c a ρ M x M1) (hb : PV c b ρ M1 y M2) (hr : ∀ X, c.Has X → IxR X C) (hk : ∀ F H v w, Sit c.K F M2 H → Rep c.K F x v → Rep c.K F y w → ∃ u, Rep c.K F z u ∧ ∀ Q : VK, Q u H → C v w H Q) (hs : PlainIx b := by exact fun _ _ => rfl) : PV c (.Subscript a b pos) ρ M z M2 := .mk fun hE => by
  obtain ⟨ta, a1, a2⟩ := ha.out hE
  obtain ⟨tb, b1, b2⟩ := hb.out hE
  refine ⟨tOp C ta tb, fun X hX => pe_ix (hr X hX) (a1 X hX) (b1 X hX) hs, ev2 a2 (fun _ _ ⟨_, e⟩ => e ▸ b2) fun F H v w x' ⟨_, e, _⟩ S p1 p2 Q q => ?_⟩
  subst e
  obtain ⟨u, r1, r2⟩ := hk F H v w S p1 p2
  exact r2 Q (q F H u _ _ ⟨rfl, rfl⟩ S Go.refl r1)
theorem sql_up {K : PySem.W.Frag} {F H : Hp} {p : Addr} {vs : List V} (S : Sit K F M H) (h : SqL K F p vs) : SqL K H p vs := S.fh.seq h
theorem sqt_up {K : PySem.W.Frag} {F H : Hp} {p : Addr} {vs : List V} (S : Sit K F M H) (h : SqT K F p vs) : SqT K H p vs := sqt_mono S.fh h
/-- the place that an index means -/
def ixOf (k : Nat) (n : Int) : Option Nat := ixN k n
theorem ixN_of {k : Nat} (h0 : 0 ≤ n) (h1 : n < k) : ixN k n = some n.toNat := by unfold ixN; rw [if_pos h0, if_pos h1]
theorem atI_of {α : Type} {l : List α} {v : α} (h0 : 0 ≤ n) (e : l[n.toNat]? = some v) : atI l n = some v := by
  have h1 : n.toNat < l.length := (List.getElem?_eq_some_iff.mp e).1
  unfold atI
  rw [ixN_of h0 (by omega)]
  exact e
theorem atI_neg {α : Type} {l : List α} {v : α} {k : Nat} (hk : 0 < k) (e : l[l.length - k]? = some v) (hl : k ≤ l.length) : atI l (-(k : Int)) = some v := by
  unfold atI ixN
  rw [if_neg (by omega), if_pos (by omega)]
  have : (-(k : Int) + (l.length : Int)).toNat = l.length - k := by omega
  simpa [this] using e
theorem pv_ixL (ha : PV c a ρ M (.lst xs) M1) (hb : PV c b ρ M1 (.int n) M2) (h0 : 0 ≤ n) (hz : xs[n.toNat]? = some z) (hs : PlainIx b := by exact fun _ _ => rfl) : PV c (.Subscript a b pos) ρ M z M2 :=
  pv_ix (C := rIxL c.K) ha hb (fun X hX => by rw [← hX.K]; exact ix_list) (fun F H v w S p1 p2 => by
    obtain ⟨p, vs, rfl, hp, r⟩ := rep_lstS p1
    obtain ⟨u, hu, ru⟩ := r.get hz
    exact ⟨u, ru, fun Q q => ⟨p, vs, n, u, rfl, rep_int.mp p2, sql_up S hp, atI_of h0 hu, q⟩⟩) hs
theorem pv_ixT (ha : PV c a ρ M (.tup xs) M1) (hb : PV c b ρ M1 (.int n) M2) (h0 : 0 ≤ n) (hz : xs[n.toNat]? = some z) (hs : PlainIx b := by exact fun _ _ => rfl) : PV c (.Subscript a b pos) ρ M z M2 :=
  pv_ix (C := rIxT c.K) ha hb (fun X hX => by rw [← hX.K]; exact ix_tup) (fun F H v w S p1 p2 => by
    obtain ⟨p, vs, rfl, hp, r⟩ := rep_tup.mp p1
    obtain ⟨u, hu, ru⟩ := r.get hz
    exact ⟨u, ru, fun Q q => ⟨p, vs, n, u, rfl, rep_int.mp p2, sqt_up S hp, atI_of h0 hu, q⟩⟩) hs
/-- of a list that may change -/
theorem pv_ixM {p : Addr} (ha : PV c a ρ M (.ref p) M1) (hb : PV c b ρ M1 (.int n) M2) (hm : MAt M2 p (.lst xs)) (h0 : 0 ≤ n) (hz : xs[n.toNat]? = some z) (hs : PlainIx b := by exact fun _ _ => rfl) : PV c (.Subscript a b pos) ρ M z M2 :=
  pv_ix (C := rIxL c.K) ha hb (fun X hX => by rw [← hX.K]; exact ix_list) (fun F H v w S p1 p2 => by
    have ep := rep_ref.mp p1
    subst ep
    obtain ⟨_, u, hu, vs, rfl, r⟩ := hm.get S.ok
    obtain ⟨u, hu', ru⟩ := r.get hz
    exact ⟨u, ru, fun Q q => ⟨p, vs, n, u, rfl, rep_int.mp p2, SqL.of hu, atI_of h0 hu', q⟩⟩) hs
theorem pv_ixS {k : Nat} (ha : PV c a ρ M (.str s) M1) (hb : PV c b ρ M1 (.int n) M2) (h0 : 0 ≤ n) (hl : s.length ≤ sizeLine) (hz : s[n.toNat]? = some k) (hs : PlainIx b := by exact fun _ _ => rfl) : PV c (.Subscript a b pos) ρ M (.str [k]) M2 :=
  pv_ix (C := rIxS) ha hb (fun X hX => ix_str) (fun F H v w S p1 p2 =>
    ⟨.str ⟨#[k]⟩, rep_str.mpr rfl, fun Q q => ⟨T s, n, k, rep_str.mp p1, rep_int.mp p2, by rw [T_len]; exact hl, atI_of h0 hz, q⟩⟩) hs
/-- the last sign -/
theorem pv_ixSneg {k j : Nat} (ha : PV c a ρ M (.str s) M1) (hb : PV c b ρ M1 (.int (-(j : Int))) M2) (hj : 0 < j) (hjl : j ≤ s.length) (hl : s.length ≤ sizeLine) (hz : s[s.length - j]? = some k) (hs : PlainIx b := by exact fun _ _ => rfl) : PV c (.Subscript a b pos) ρ M (.str [k]) M2 :=
  pv_ix (C := rIxS) ha hb (fun X hX => ix_str) (fun F H v w S p1 p2 =>
    ⟨.str ⟨#[k]⟩, rep_str.mpr rfl, fun Q q => ⟨T s, _, k, rep_str.mp p1, rep_int.mp p2, by rw [T_len]; exact hl, atI_neg hj hz hjl, q⟩⟩) hs
/-- d[k] -/
theorem dget_of {K : PySem.W.Frag} {F H : Hp} {kvs : List (DK × D)} {j : DK} {p : Addr} {w : V} (S : Sit K F M H) {ws : List (Key × V)} (hp : Rd H p (.dK ws)) (r : RepK K F kvs ws) (e : look kvs j = some z) (hw : w = kV j.k) : ∃ u, DGet H p w (some u) ∧ Rep K F z u := by
  obtain ⟨u, hu, ru⟩ := r.look_some e
  exact ⟨u, .inl ⟨ws, j.k, hp, hw, hu.symm⟩, ru⟩
def kD : DK → D
  | .inl i => .int i
  | .inr l => .str l
theorem rep_kD {K : PySem.W.Frag} {F : Hp} {j : DK} {w : V} (h : Rep K F (kD j) w) : w = kV j.k := by
  cases j with
  | inl i => exact rep_int.mp h
  | inr l => exact rep_str.mp h
def DctAt (K : PySem.W.Frag) (x : D) (M : Mem) (kvs : List (DK × D)) : Prop := ∀ F H v, Sit K F M H → Rep K F x v → ∃ p ws, v = .ref p ∧ Rd H p (.dK ws) ∧ RepK K F kvs ws
theorem dct_at {kvs : List (DK × D)} {K : PySem.W.Frag} : DctAt K (.dct kvs) M2 kvs := fun F H v S h => by
  obtain ⟨p, ws, e, ⟨o, hp⟩, r⟩ := rep_dct.mp h
  exact ⟨p, ws, e, .inr ⟨o, S.fh _ _ hp⟩, r⟩
theorem dctM_at {kvs : List (DK × D)} {K : PySem.W.Frag} {p : Addr} (hm : MAt M2 p (.dK kvs)) : DctAt K (.ref p) M2 kvs := fun F H v S h => by
  obtain ⟨_, u, hu, ws, e, r⟩ := hm.get S.ok
  subst e
  exact ⟨p, ws, rep_ref.mp h, .inl hu, r⟩
theorem dctL_at {kvs : List (DK × D)} {K : PySem.W.Frag} {p : Addr} {u : HO} (hm : MAt M2 p (.dKL kvs u)) : DctAt K (.ref p) M2 kvs := fun F H v S h => by
  obtain ⟨_, u, hu, ws, w, e, e2, r⟩ := hm.get S.ok
  subst e e2
  exact ⟨p, ws, rep_ref.mp h, .inr ⟨w, hu⟩, r⟩
theorem pv_dgetA {kvs : List (DK × D)} {j : DK} (ha : PV c a ρ M x M1) (hb : PV c b ρ M1 (kD j) M2) (hx : DctAt c.K x M2 kvs) (hz : look kvs j = some z) (hs : NoSl b := by exact fun _ _ => rfl) : PV c (.Subscript a b pos) ρ M z M2 := .mk fun hE => by
  obtain ⟨ta, a1, a2⟩ := ha.out hE
  obtain ⟨tb, b1, b2⟩ := hb.out hE
  refine ⟨tDGet ta tb, fun X hX => pe_dget (hu_of hX.room) (a1 X hX) (b1 X hX) hs, ev2 (k := fun x y H2 Q => ∃ a v, x = .ref a ∧ DGet H2 a y (some v) ∧ Q v H2) a2 (fun _ _ ⟨_, e⟩ => e ▸ b2) fun F H v w x' ⟨_, e, _⟩ S p1 p2 Q q => ?_⟩
  subst e
  obtain ⟨p, ws, rfl, hp, r⟩ := hx F H v S p1
  obtain ⟨u, g, ru⟩ := dget_of S hp r hz (rep_kD p2)
  exact ⟨p, u, rfl, g, q F H u _ _ ⟨rfl, rfl⟩ S Go.refl ru⟩
theorem pv_dget {kvs : List (DK × D)} {j : DK} (ha : PV c a ρ M (.dct kvs) M1) (hb : PV c b ρ M1 (kD j) M2) (hz : look kvs j = some z) (hs : NoSl b := by exact fun _ _ => rfl) : PV c (.Subscript a b pos) ρ M z M2 := pv_dgetA ha hb dct_at hz hs
theorem pv_dgetM {kvs : List (DK × D)} {j : DK} {p : Addr} (ha : PV c a ρ M (.ref p) M1) (hb : PV c b ρ M1 (kD j) M2) (hm : MAt M2 p (.dK kvs)) (hz : look kvs j = some z) (hs : NoSl b := by exact fun _ _ => rfl) : PV c (.Subscript a b pos) ρ M z M2 := pv_dgetA ha hb (dctM_at hm) hz hs
theorem din_core {kvs : List (DK × D)} {j : DK} {K : PySem.W.Frag} {ta tb : TE} (hx : ∀ F H v, Sit K F M2 H → Rep K F x v → ∃ p ws, v = .ref p ∧ Rd H p (.dK ws) ∧ RepK K F kvs ws) (hb : EvR K tb ρ M (is (kD j) M1)) (ha : EvR K ta ρ M1 (is x M2)) (neg : Bool) :
    EvR K (fun σ H Q => tb σ H fun y H1 => ta σ H1 fun x H2 => ∃ a o, x = .ref a ∧ DGet H2 a y o ∧ Q (.bl (if neg then !o.isSome else o.isSome)) H2) ρ M (is (.bl (if neg then !(look kvs j).isSome else (look kvs j).isSome)) M2) :=
  ev2 (k := fun y x H2 Q => ∃ a o, x = .ref a ∧ DGet H2 a y o ∧ Q (.bl (if neg then !o.isSome else o.isSome)) H2) hb (fun _ _ ⟨_, e⟩ => e ▸ ha) fun F H v w x' ⟨_, e, _⟩ S p1 p2 Q q => by
    subst e
    obtain ⟨p, ws, rfl, hp, r⟩ := hx F H w S p2
    refine ⟨p, valV ws j.k, rfl, .inl ⟨ws, j.k, hp, rep_kD p1, rfl⟩, ?_⟩
    rw [r.look_isSome j]
    exact q F H _ _ _ ⟨rfl, rfl⟩ S Go.refl (rep_bl.mpr rfl)
theorem pv_din {kvs : List (DK × D)} {j : DK} (hb : PV c b ρ M (kD j) M1) (ha : PV c a ρ M1 x M2) (hx : ∀ F H v, Sit c.K F M2 H → Rep c.K F x v → ∃ p ws, v = .ref p ∧ Rd H p (.dK ws) ∧ RepK c.K F kvs ws) (hm : behindInMarks .In a = false := by rfl) : PV c (.Compare b [.In] [a] pos) ρ M (.bl (look kvs j).isSome) M2 := .mk fun hE => by
  obtain ⟨ta, a1, a2⟩ := ha.out hE
  obtain ⟨tb, b1, b2⟩ := hb.out hE
  exact ⟨tDIn tb ta, fun X hX => pe_cmp (pc_din (hu_of hX.room) (b1 X hX) (a1 X hX)) hm, din_core hx b2 a2 false⟩
theorem pv_dnin {kvs : List (DK × D)} {j : DK} (hb : PV c b ρ M (kD j) M1) (ha : PV c a ρ M1 x M2) (hx : ∀ F H v, Sit c.K F M2 H → Rep c.K F x v → ∃ p ws, v = .ref p ∧ Rd H p (.dK ws) ∧ RepK c.K F kvs ws) (hm : behindInMarks .NotIn a = false := by rfl) : PV c (.Compare b [.NotIn] [a] pos) ρ M (.bl (!(look kvs j).isSome)) M2 := .mk fun hE => by
  obtain ⟨ta, a1, a2⟩ := ha.out hE
  obtain ⟨tb, b1, b2⟩ := hb.out hE
  exact ⟨tDNotIn tb ta, fun X hX => pe_cmp (pc_dnotin (hu_of hX.room) (b1 X hX) (a1 X hX)) hm, din_core hx b2 a2 true⟩
theorem pb_din {kvs : List (DK × D)} {j : DK} (hb : PV c b ρ M (kD j) M1) (ha : PV c a ρ M1 x M2) (hx : ∀ F H v, Sit c.K F M2 H → Rep c.K F x v → ∃ p ws, v = .ref p ∧ Rd H p (.dK ws) ∧ RepK c.K F kvs ws) (hm : behindInMarks .In a = false := by rfl) : PB c (.Compare b [.In] [a] pos) ρ M (look kvs j).isSome M2 := .mk fun hE => by
  obtain ⟨ta, a1, a2⟩ := ha.out hE
  obtain ⟨tb, b1, b2⟩ := hb.out hE
  refine ⟨tB (tDIn tb ta), fun X hX => pt_cmp (pc_din (hu_of hX.room) (b1 X hX) (a1 X hX)) hm, fun F σ H S L Q q => ?_⟩
  exact din_core hx b2 a2 false F σ H S L (fun v H' => ∃ k, v = .bl k ∧ Q k H') fun F1 H1 v x M1' ⟨e1, e2⟩ S1 g1 p1 => by
    subst e1 e2
    exact ⟨_, rep_bl.mp p1, q F1 H1 _ _ ⟨rfl, rfl⟩ S1 g1⟩
theorem pb_dnin {kvs : List (DK × D)} {j : DK} (hb : PV c b ρ M (kD j) M1) (ha : PV c a ρ M1 x M2) (hx : ∀ F H v, Sit c.K F M2 H → Rep c.K F x v → ∃ p ws, v = .ref p ∧ Rd H p (.dK ws) ∧ RepK c.K F kvs ws) (hm : behindInMarks .NotIn a = false := by rfl) : PB c (.Compare b [.NotIn] [a] pos) ρ M (!(look kvs j).isSome) M2 := .mk fun hE => by
  obtain ⟨ta, a1, a2⟩ := ha.out hE
  obtain ⟨tb, b1, b2⟩ := hb.out hE
  refine ⟨tB (tDNotIn tb ta), fun X hX => pt_cmp (pc_dnotin (hu_of hX.room) (b1 X hX) (a1 X hX)) hm, fun F σ H S L Q q => ?_⟩
  exact din_core hx b2 a2 true F σ H S L (fun v H' => ∃ k, v = .bl k ∧ Q k H') fun F1 H1 v x M1' ⟨e1, e2⟩ S1 g1 p1 => by
    subst e1 e2
    exact ⟨_, rep_bl.mp p1, q F1 H1 _ _ ⟨rfl, rfl⟩ S1 g1⟩
/-! slices -/
structure PPart (c : Cfg) (e : Option Expr) (ρ : Env) (M : Mem) (o : Option Int) (M' : Mem) : Prop where
  mk ::
  out : EnvOk c ρ → ∃ t : TO, (∀ X, c.Has X → PO X e t) ∧ ∀ F σ H, Sit c.K F M H → Slots c.K F ρ σ → ∀ Q : Option Int → Hp → Prop, (∀ F' H', Sit c.K F' M' H' → Go M F H M' F' H' → Q o H') → t σ H Q
theorem pp_none : PPart c none ρ M none M := .mk fun _ => ⟨tNoPart, fun X _ => po_none, fun F σ H S L Q q => q F H S Go.refl⟩
theorem pp_some (h : PV c e ρ M (.int n) M1) : PPart c (some e) ρ M (some n) M1 := .mk fun hE => by
  obtain ⟨t, a1, a2⟩ := h.out hE
  refine ⟨tPart t, fun X hX => po_some (a1 X hX), fun F σ H S L Q q => a2 F σ H S L _ fun F1 H1 v x M1' ⟨e1, e2⟩ S1 g1 p1 => ?_⟩
  subst e1 e2
  exact ⟨n, rep_int.mp p1, q F1 H1 S1 g1⟩
/-- a piece -/
def cut {α : Type} (l : List α) (lo hi : Option Int) : List α := (l.drop (HT.sIx l.length 0 lo)).take (HT.sIx l.length l.length hi - HT.sIx l.length 0 lo)
theorem cut_to {α : Type} (l : List α) (k : Nat) : cut l none (some (k : Int)) = l.take k := by
  unfold cut
  rw [HT.sIx_none, HT.sIx_nat, List.drop_zero, Nat.sub_zero]
  by_cases h : k ≤ l.length
  · rw [Nat.min_eq_left h]
  · rw [Nat.min_eq_right (by omega), List.take_of_length_le (Nat.le_refl _), List.take_of_length_le (by omega)]
theorem cut_from {α : Type} (l : List α) (k : Nat) : cut l (some (k : Int)) none = l.drop k := by
  unfold cut
  rw [HT.sIx_none, HT.sIx_nat]
  by_cases h : k ≤ l.length
  · rw [Nat.min_eq_left h, List.take_of_length_le (by simp)]
  · rw [Nat.min_eq_right (by omega)]
    simp [List.drop_eq_nil_of_le (show l.length ≤ k by omega)]
theorem pv_sl {lo hi : Option Expr} {l u : Option Int} {r : V → Option Int → Option Int → Hp → VK → Prop} (he : PV c e ρ M x M1) (hl : PPart c lo ρ M1 l M2) (hu : PPart c hi ρ M2 u M3) (hr : ∀ X, c.Has X → SlR X r)
    (hk : ∀ F H v, Sit c.K F M3 H → Rep c.K F x v → ∀ Q : VK, (∀ F' H' w, Sit c.K F' M' H' → Go M3 F H M' F' H' → Rep c.K F' z w → Q w H') → r v l u H Q) : PV c (.Subscript e (.Slice lo hi none p2) pos) ρ M z M' := .mk fun hE => by
  obtain ⟨te, a1, a2⟩ := he.out hE
  obtain ⟨tl, b1, b2⟩ := hl.out hE
  obtain ⟨th, c1, c2⟩ := hu.out hE
  refine ⟨tSl r te tl th, fun X hX => pe_slice (hr X hX) (a1 X hX) (b1 X hX) (c1 X hX), fun F σ H S L Q q => a2 F σ H S L _ fun F1 H1 v x M1' ⟨e1, e2⟩ S1 g1 p1 => ?_⟩
  subst e1 e2
  refine b2 F1 σ H1 S1 (L.mono g1.ff) _ fun F2 H2 S2 g2 => c2 F2 σ H2 S2 (L.mono (g1.ff.trans g2.ff)) _ fun F3 H3 S3 g3 => ?_
  exact hk F3 H3 v S3 ((p1.mono g2.ff).mono g3.ff) Q fun F' H' w S' g' p' => q F' H' w _ _ ⟨rfl, rfl⟩ S' (((g1.trans g2).trans g3).trans g') p'
theorem pv_slS {lo hi : Option Expr} {l u : Option Int} (he : PV c e ρ M (.str s) M1) (hl : PPart c lo ρ M1 l M2) (hu : PPart c hi ρ M2 u M3) (hz : s.length ≤ sizeLine) : PV c (.Subscript e (.Slice lo hi none p2) pos) ρ M (.str (cut s l u)) M3 :=
  pv_sl he hl hu (fun X _ => sl_str) fun F H v S p1 Q q => ⟨T s, rep_str.mp p1, by rw [T_len]; exact hz, q F H _ S Go.refl (rep_str.mpr (by
    unfold cutS; rw [T_len]; rfl))⟩
theorem pv_slL {lo hi : Option Expr} {l u : Option Int} (he : PV c e ρ M (.lst xs) M1) (hl : PPart c lo ρ M1 l M2) (hu : PPart c hi ρ M2 u M3) : PV c (.Subscript e (.Slice lo hi none p2) pos) ρ M (.lst (cut xs l u)) M3 :=
  pv_sl (r := rSlL c.K) he hl hu (fun X hX => by rw [← hX.K]; exact sl_list) fun F H v S p1 Q q => by
    obtain ⟨p, vs, rfl, hp, r⟩ := rep_lstS p1
    refine ⟨p, vs, rfl, sql_up S hp, fun p' hp' => ?_⟩
    obtain ⟨S2, g2⟩ := S.new (o := .lst (cutV vs l u)) hp'
    refine q _ _ _ S2 g2 (rep_lst.mpr ⟨p', _, rfl, upd_same, ?_⟩)
    have e : cutV vs l u = (vs.drop (HT.sIx xs.length 0 l)).take (HT.sIx xs.length xs.length u - HT.sIx xs.length 0 l) := by unfold cutV; rw [r.len]
    have r2 : Reps c.K F (cut xs l u) (cutV vs l u) := by rw [e]; exact (r.drop _).take _
    exact r2.mono g2.ff
end
end Dl

set_option Elab.async false
set_option linter.all false
set_option maxRecDepth 100000
set_option maxHeartbeats 2000000
/-! Dl: R: texts and lists from behind. -/
namespace L2
open PySem PySem.Spec PyProof.Rows
def tRevS (te : TE) : TE := fun σ H Q => te σ H fun x H1 => ∃ z : Str, x = .str z ∧ z.length ≤ sizeLine ∧ Q (.str ⟨z.cps.toList.reverse.toArray⟩) H1
theorem rev_list (z : Str) : ((Builtin.Str.strSliceIndices none none (-1) z.length).filterMap (z.cps[·]?)) = z.cps.toList.reverse := by
  obtain ⟨⟨l⟩⟩ := z
  rw [PyProof.Rows.picked_rev, PyProof.Rows.filterMap_get]
  · show List.map (fun x => (l.toArray).getD x 0) (List.map (fun k => l.length - 1 - k) (List.range l.length)) = l.reverse
    rw [List.map_map]
    apply List.ext_getElem?
    intro i
    rw [List.getElem?_map]
    by_cases hi : i < l.length
    · have e1 : (List.range l.length)[i]? = some i := by simp [hi]
      rw [e1, List.getElem?_reverse hi]
      have h2 : l.length - 1 - i < l.length := by omega
      simp [Array.getD, h2]
    · rw [List.getElem?_eq_none (by simpa using hi), List.getElem?_eq_none (by simpa using hi)]
      rfl
  · intro i hi
    obtain ⟨k, hk, rfl⟩ := List.mem_map.mp hi
    have hk' : k < l.length := List.mem_range.mp hk
    show l.length - 1 - k < l.toArray.size
    rw [List.size_toArray]
    omega
theorem pe_revS {X : Cx} {e : Expr} {te : TE} {k : Nat} {p1 p2 p3 pos : Pos} (he : PE X e te) : PE X (.Subscript e (.Slice none none (some (.UnaryOp .USub (.Constant (.int 1) k p1) p2)) p3) pos) (tRevS te) := by
  refine ⟨fun pins s σ H Q I h => ?_⟩
  refine Subscript_ (thn (he.run pins s σ H _ I h) fun v s1 ⟨x, H1, I1, r1, q1⟩ => ?_)
  obtain ⟨z, ex, hz, q⟩ := q1
  subst ex
  obtain ⟨t, rfl⟩ := r1
  have hst : PO X (some (.UnaryOp .USub (.Constant (.int 1) k p1) p2)) (tPart (tUn (rU fun i => .int (-i)) (tC (.int 1)))) := po_some (pe_un un_neg pe_int)
  refine wpAny_Slice (thn (po_none.run pins s1 σ H1 (fun o H2 => o = none ∧ H2 = H1) I1 ⟨rfl, rfl⟩) fun vl s2 ⟨l, H2, I2, pl, el, e2⟩ => ?_)
  subst el e2
  refine thn (po_none.run pins s2 σ H2 (fun o H3 => o = none ∧ H3 = H2) I2 ⟨rfl, rfl⟩) fun vu s3 ⟨u, H3, I3, pu, eu, e3⟩ => ?_
  subst eu e3
  refine thn (hst.run pins s3 σ H3 (fun o H4 => o = some (-1) ∧ H4 = H3) I3 ⟨1, rfl, -1, rfl, rfl, rfl⟩) fun vs s4 ⟨o, H4, I4, ps, eo, e4⟩ => ?_
  subst eo e4
  have I5 : Inv X pins σ H4 { s4 with heap := s4.heap.push { cls := .type "slice", data := .fields #[vl, vu, vs] } } := I4.kept (t' := s4.toks) fun b ob q => Heap.get?_push_of_some _ q
  show wpAny (model X.prog X.w) X.A (subscriptTail e (.Slice none none (some (.UnaryOp .USub (.Constant (.int 1) k p1) p2)) p3) (.str z t) (.ref s4.heap.objs.size)) (EP X pins σ Q) X.xe { s4 with heap := s4.heap.push { cls := .type "slice", data := .fields #[vl, vu, vs] } }
  refine tail_any (ops := [.str z t, .ref s4.heap.objs.size]) (typeIs_str _ _ _) (PySem.F.slot_str_getitem.lookup) ?_ (by with_unfolding_all rfl)
  obtain ⟨l, hl2, hl1⟩ := IsPart.raw pl
  obtain ⟨u, hu2, hu1⟩ := IsPart.raw pu
  obtain ⟨st, hs2, hs1⟩ := IsPart.raw ps
  have en := Heap.IsSliceOf.new s4.heap vl vu vs
  obtain ⟨os, hos, hcs, hds⟩ := en
  subst hl2 hu2 hs2
  cases l with
  | some l => cases hl1
  | none =>
  cases u with
  | some u => cases hu1
  | none =>
  cases st with
  | none => cases hs1
  | some st =>
  obtain ⟨si, stk⟩ := st
  have e1 : si = -1 := (Option.some.inj hs1)
  subst e1
  refine wpAny_getItem_str_slice (l := none) (u := none) (st := some (-1, stk)) ⟨os, hos, hcs, hds⟩ rfl ?_
  show Made.post (Made.str ⟨((Builtin.Str.strSliceIndices none none (-1) z.length).filterMap (z.cps[·]?)).toArray⟩) (EP X pins σ Q) _
  rw [rev_list]
  refine ⟨?_, .str _, H4, I5.tok _, ⟨_, rfl⟩, q⟩
  show (z.cps.toList.reverse.toArray).size ≤ sizeLine
  rw [List.size_toArray, List.length_reverse, Array.length_toList]
  exact hz
end L2
namespace Dl
open PySem PySem.Spec L2
section
variable {c : Cfg} {ρ : Env} {M M1 : Mem} {pos p1 p2 p3 : Pos} {e : Expr} {s : List Nat} {xs : List D}
theorem pv_revS {k} (he : PV c e ρ M (.str s) M1) (hz : s.length ≤ sizeLine) : PV c (.Subscript e (.Slice none none (some (.UnaryOp .USub (.Constant (.int 1) k p1) p2)) p3) pos) ρ M (.str s.reverse) M1 := .mk fun hE => by
  obtain ⟨te, a1, a2⟩ := he.out hE
  refine ⟨tRevS te, fun X hX => pe_revS (a1 X hX), fun F σ H S L Q q => a2 F σ H S L _ fun F1 H1 v x M1' ⟨e1, e2⟩ S1 g1 p1 => ?_⟩
  subst e1 e2
  exact ⟨T s, rep_str.mp p1, by rw [T_len]; exact hz, q F1 H1 _ _ _ ⟨rfl, rfl⟩ S1 g1 (rep_str.mpr rfl)⟩
theorem pv_revL {k} (he : PV c e ρ M (.lst xs) M1) : PV c (.Subscript e (.Slice none none (some (.UnaryOp .USub (.Constant (.int 1) k p1) p2)) p3) pos) ρ M (.lst xs.reverse) M1 := .mk fun hE => by
  obtain ⟨te, a1, a2⟩ := he.out hE
  refine ⟨tRevL c.K te, fun X hX => by rw [← hX.K]; exact pe_revL (a1 X hX), fun F σ H S L Q q => a2 F σ H S L _ fun F1 H1 v x M1' ⟨e1, e2⟩ S1 g1 p1 => ?_⟩
  subst e1 e2
  obtain ⟨p, vs, rfl, hp, r⟩ := rep_lstS p1
  refine ⟨p, vs, rfl, sql_up S1 hp, fun p' hp' => ?_⟩
  obtain ⟨S2, g2⟩ := S1.new (o := .lst vs.reverse) hp'
  exact q _ _ _ _ _ ⟨rfl, rfl⟩ S2 (g1.trans g2) (rep_lst.mpr ⟨p', _, rfl, upd_same, r.rev.mono g2.ff⟩)
end
end Dl

set_option Elab.async false
set_option linter.all false
set_option maxRecDepth 100000
set_option maxHeartbeats 2000000
/-! Dl: E: statements, loops. -/
namespace Dl
open PySem PySem.Spec L2
section
variable {c : Cfg} {ρ ρ' : Env} {M M1 M2 M3 M' : Mem} {pos p2 p3 apos cpos : Pos} {e a b tg iter : Expr} {es : List Expr} {x y z d : D} {xs ys ds : List D} {P : Post} {R : D → Mem → Prop} {st : Stmt} {sts body sa sb : List Stmt}
/-- the readings of a block, all at once -/
def starS (c : Cfg) (st : List Stmt) : TS := fun D σ H => ∃ t : TS, (∀ X, c.Has X → PSs X st t) ∧ t D σ H
def starT (c : Cfg) (e : Expr) : TT := fun σ H Q => ∃ t : TT, (∀ X, c.Has X → PT X e t) ∧ t σ H Q
def starE (c : Cfg) (e : Expr) : TE := fun σ H Q => ∃ t : TE, (∀ X, c.Has X → PE X e t) ∧ t σ H Q
theorem starS_ok : ∀ X, c.Has X → PSs X body (starS c body) := fun X hX => ⟨fun pins s σ H D I ⟨t, a, b⟩ => (a X hX).run pins s σ H D I b⟩
theorem starT_ok : ∀ X, c.Has X → PT X e (starT c e) := fun X hX => ⟨fun pins s σ H D I ⟨t, a, b⟩ => (a X hX).run pins s σ H D I b⟩
theorem starE_ok : ∀ X, c.Has X → PE X e (starE c e) := fun X hX => ⟨fun pins s σ H D I ⟨t, a, b⟩ => (a X hX).run pins s σ H D I b⟩
theorem starS_ev (h : PSsn c body ρ M P) (hE : EnvOk c ρ) : EvS c (starS c body) ρ M P := fun F σ H S L D f => let ⟨t, a, b⟩ := h.out hE; ⟨t, a, b F σ H S L D f⟩
theorem starT_ev {R : Bool → Mem → Prop} (h : PTn c e ρ M R) (hE : EnvOk c ρ) : EvT c.K (starT c e) ρ M R := fun F σ H S L D f => let ⟨t, a, b⟩ := h.out hE; ⟨t, a, b F σ H S L D f⟩
theorem starE_ev (h : PN c e ρ M R) (hE : EnvOk c ρ) : EvR c.K (starE c e) ρ M R := fun F σ H S L D f => let ⟨t, a, b⟩ := h.out hE; ⟨t, a, b F σ H S L D f⟩
/-! blocks -/
theorem pss_nil' (h : P.nx ρ M) : PSsn c [] ρ M P := .mk fun hE => ⟨tNext, fun X _ => pss_nil, fun F σ H S L D f => f.nx F H ρ σ M h hE S L Go.refl⟩
theorem pss_cons' (h : PSn c st ρ M { P with nx := fun ρ' M' => PSsn c sts ρ' M' P }) : PSsn c (st :: sts) ρ M P := .mk fun hE => by
  obtain ⟨t, a, b⟩ := h.out hE
  refine ⟨tSeq t (starS c sts), fun X hX => pss_cons (a X hX) (starS_ok X hX), fun F σ H S L D f => b F σ H S L _ ⟨fun F' H' ρ' σ' M' n hE' S' L' g => ?_, f.rt, f.bk, f.ct⟩⟩
  exact starS_ev n hE' F' σ' H' S' L' D (f.go g)
theorem ps_ret' (h : PN c e ρ M P.rt) : PSn c (.Return (some e) pos) ρ M P := .mk fun hE => by
  obtain ⟨t, a, b⟩ := h.out hE
  exact ⟨tRet t, fun X hX => ps_ret (a X hX), fun F σ H S L D f => b F σ H S L _ f.rt⟩
theorem ps_retN' (h : P.rt .non M) : PSn c (.Return none pos) ρ M P := .mk fun hE =>
  ⟨tRetN, fun X _ => ps_retN, fun F σ H S L D f => f.rt F H _ _ M h S Go.refl (rep_non.mpr rfl)⟩
theorem ps_pass' (h : P.nx ρ M) : PSn c (.Pass pos) ρ M P := .mk fun hE => ⟨tNext, fun X _ => ps_pass, fun F σ H S L D f => f.nx F H ρ σ M h hE S L Go.refl⟩
theorem ps_brk' (h : P.bk ρ M) : PSn c (.Break pos) ρ M P := .mk fun hE => ⟨tBreak, fun X _ => ps_break, fun F σ H S L D f => f.bk F H ρ σ M h hE S L Go.refl⟩
theorem ps_cont' (h : P.ct ρ M) : PSn c (.Continue pos) ρ M P := .mk fun hE => ⟨tCont, fun X _ => ps_continue, fun F σ H S L D f => f.ct F H ρ σ M h hE S L Go.refl⟩
/-- what is never reached -/
theorem ps_no (h : False) : PSn c st ρ M P := h.elim
theorem ps_expr' (h : PN c e ρ M fun _ N => P.nx ρ N) (hs : ∀ env : PySem.Env, swapsWith e none pos.line env = pure false := by intro _; rfl) : PSn c (.Expr e pos) ρ M P := .mk fun hE => by
  obtain ⟨t, a, b⟩ := h.out hE
  exact ⟨tDrop t, fun X hX => ps_expr (a X hX) (hs _), fun F σ H S L D f => b F σ H S L _ fun F' H' v d M' n S' g _ => f.nx F' H' ρ σ M' n hE S' (L.mono g.ff) g⟩
/-- x = e -/
abbrev LocC (c : Cfg) (nm : Str) : Prop := c.sc.names.lookup nm = some .local ∨ (c.top nm = true ∧ c.sc.names.lookup nm = some .cell)
theorem pg_nm {nm : Str} {f : Option D → Env} (hp : Put ρ nm f) (hl : LocC c nm) (hE : EnvOk c ρ) : ∃ i : Nat, c.N[i]? = some nm ∧ (∀ X, c.Has X → PG X (.Name nm pos) (gName i)) := by
  obtain ⟨i, h1, _, _⟩ := hp.ix
  refine ⟨i, by rw [← hE.1]; exact h1, fun X hX => pg_name hX.nd (by rw [hX.N, ← hE.1]; exact h1) ?_ ?_⟩
  · rcases hl with hl | ⟨_, hl⟩
    · exact .inl (by rw [hX.sc]; exact hl)
    · exact .inr (by rw [hX.sc]; exact hl)
  · rcases hl with hl | ⟨ht, _⟩
    · exact .inr (by rw [hX.sc]; exact hl)
    · exact .inl (hX.fn _ ht)
theorem put_ok {nm : Str} {f : Option D → Env} {i : Nat} {F : Hp} {σ : St} {v : V} (hp : Put ρ nm f) (hE : EnvOk c ρ) (hi : c.N[i]? = some nm) (L : Slots c.K F ρ σ) (r : Rep c.K F d v) : EnvOk c (f (some d)) ∧ Slots c.K F (f (some d)) (σ.set i (some v)) := by
  obtain ⟨j, h1, h2, h3⟩ := hp.ix
  have e : i = j := nodup_ix hE.2 hi (by rw [← hE.1]; exact h1)
  subst e
  exact ⟨⟨(h2 _).trans hE.1, hE.2⟩, h3 _ _ _ _ _ L fun d' ed => ⟨v, rfl, by cases ed; exact r⟩⟩
theorem ps_set' {nm : Str} {f : Option D → Env} (hp : Put ρ nm f) (h : PN c e ρ M fun d N => P.nx (f (some d)) N)
    (hl : LocC c nm := by first | exact Or.inl rfl | exact Or.inr ⟨rfl, rfl⟩)
    (hs : ∀ env : PySem.Env, swapsWith e (some (.Name nm p2)) pos.line env = pure false := by intro _; rfl) (hw : ∀ env : PySem.Env, swappedStores [.Name nm p2] e env = pure none := by intro _; rfl) : PSn c (.Assign [.Name nm p2] e pos) ρ M P := .mk fun hE => by
  obtain ⟨t, a, b⟩ := h.out hE
  obtain ⟨i, hi, hg⟩ := pg_nm (pos := p2) hp hl hE
  refine ⟨tAsg t (gName i), fun X hX => ps_asg (a X hX) (hg X hX) (hs _) (hw _), fun F σ H S L D f' => b F σ H S L _ fun F' H' v d M' n S' g r => ?_⟩
  obtain ⟨h1, h2⟩ := put_ok hp hE hi (L.mono g.ff) r
  exact f'.nx F' H' _ _ M' n h1 S' h2 g
/-- if -/
theorem ps_if' {k : Bool} (h : PB c e ρ M k M1) (ha : k = true → PSsn c sa ρ M1 P) (hb : k = false → PSsn c sb ρ M1 P) : PSn c (.If e sa sb pos) ρ M P := .mk fun hE => by
  obtain ⟨t, a, b⟩ := h.out hE
  refine ⟨tIfS t (starS c sa) (starS c sb), fun X hX => ps_if (a X hX) (starS_ok X hX) (starS_ok X hX), fun F σ H S L D f => b F σ H S L _ fun F' H' k' M' ⟨e1, e2⟩ S' g => ?_⟩
  subst e1 e2
  cases k' with
  | true => exact starS_ev (ha rfl) hE F' σ H' S' (L.mono g.ff) D (f.go g)
  | false => exact starS_ev (hb rfl) hE F' σ H' S' (L.mono g.ff) D (f.go g)
/-- while: I by a number that falls -/
theorem ps_while' (I : Nat → Env → Mem → Prop) {n : Nat} (h0 : I n ρ M)
    (hs : ∀ n ρ M, I n ρ M → PTn c e ρ M fun k M1 => if k = true then PSsn c body ρ M1 { P with nx := fun ρ' M' => ∃ m, m < n ∧ I m ρ' M', ct := fun ρ' M' => ∃ m, m < n ∧ I m ρ' M', bk := P.nx } else P.nx ρ M1) : PSn c (.While e body [] pos) ρ M P := .mk fun hE => by
  refine ⟨tWhile (starT c e) (starS c body), fun X hX => ps_while hX.po (starT_ok X hX) (starS_ok X hX), fun F0 σ0 H0 S0 L0 D f0 => ?_⟩
  refine ⟨fun m σ H => ∃ F ρ M, I m ρ M ∧ EnvOk c ρ ∧ Sit c.K F M H ∧ Slots c.K F ρ σ ∧ Go _ F0 H0 M F H, ⟨n, F0, ρ, M, h0, hE, S0, L0, Go.refl⟩, ?_⟩
  rintro m σ H ⟨F, ρ, M, i, hE, S, L, g0⟩
  refine starT_ev (hs m ρ M i) hE F σ H S L _ fun F1 H1 k M1 q S1 g1 => ?_
  cases k with
  | true =>
    refine ⟨fun σ' H' => ∃ m', m' < m ∧ ∃ F ρ M, I m' ρ M ∧ EnvOk c ρ ∧ Sit c.K F M H' ∧ Slots c.K F ρ σ' ∧ Go _ F0 H0 M F H', fun σ' H' x => x, ?_⟩
    have q' : PSsn c body ρ M1 _ := q
    refine starS_ev q' hE F1 σ H1 S1 (L.mono g1.ff) _ ⟨fun F' H' ρ' σ' M' ⟨m', lt, i'⟩ hE' S' L' g' => ⟨m', lt, F', ρ', M', i', hE', S', L', (g0.trans g1).trans g'⟩, fun F' H' v d M' r S' g' p => f0.rt F' H' v d M' r S' ((g0.trans g1).trans g') p,
      fun F' H' ρ' σ' M' n hE' S' L' g' => f0.nx F' H' ρ' σ' M' n hE' S' L' ((g0.trans g1).trans g'), fun F' H' ρ' σ' M' ⟨m', lt, i'⟩ hE' S' L' g' => ⟨m', lt, F', ρ', M', i', hE', S', L', (g0.trans g1).trans g'⟩⟩
  | false => exact f0.nx F1 H1 ρ σ M1 q hE S1 (L.mono g1.ff) (g0.trans g1)
/-! for -/
/-- J goes through the items xs, which stand from F on, as long as the memory is as Φ says -/
def WalkM (K : PySem.W.Frag) (F : Hp) (J : It) (xs : List D) (Φ : Mem → Prop) : Prop :=
  ∀ F2 H2 M, Same F F2 → Sit K F2 M H2 → Φ M → (∀ i x, xs[i]? = some x → J.go i H2 ∧ ∀ v H3, J.yld i H2 v H3 → ∃ F3, Rep K F3 x v ∧ Sit K F3 M H3 ∧ Go M F2 H2 M F3 H3) ∧ J.stop xs.length H2
abbrev WalkD (K : PySem.W.Frag) (F : Hp) (J : It) (xs : List D) : Prop := WalkM K F J xs fun _ => True
structure PInM (c : Cfg) (tg iter : Expr) (ρ : Env) (M : Mem) (xs : List D) (M1 : Mem) (Φ : Mem → Prop) : Prop where
  mk ::
  out : EnvOk c ρ → ∃ wi : TI, (∀ X, c.Has X → PI X tg iter wi) ∧
  ∀ F σ H, Sit c.K F M H → Slots c.K F ρ σ → ∀ R : It → Hp → Prop, (∀ F' H' J, Sit c.K F' M1 H' → Go M F H M1 F' H' → WalkM c.K F' J xs Φ → R J H') → wi σ H R
abbrev PIn (c : Cfg) (tg iter : Expr) (ρ : Env) (M : Mem) (xs : List D) (M1 : Mem) : Prop := PInM c tg iter ρ M xs M1 fun _ => True
theorem PIn.at_ {c : Cfg} {tg iter : Expr} {ρ : Env} {M M1 : Mem} {xs : List D} {Φ : Mem → Prop} (h : PIn c tg iter ρ M xs M1) : PInM c tg iter ρ M xs M1 Φ := .mk fun hE => by
  obtain ⟨wi, a, b⟩ := h.out hE
  exact ⟨wi, a, fun F σ H S L R q => b F σ H S L R fun F' H' J S' g W => q F' H' J S' g fun F2 H2 M2 hs S2 _ => W F2 H2 M2 hs S2 trivial⟩
/-- a target, and what it makes of the names -/
def PGn (c : Cfg) (tg : Expr) (is : List Nat) (f : D → Env → Env → Prop) : Prop := ∃ g : TG, (∀ X, c.Has X → PG X tg g) ∧
  ∀ d ρ ρ', f d ρ ρ' → EnvOk c ρ → EnvOk c ρ' ∧ ∀ F σ H M v, Sit c.K F M H → Slots c.K F ρ σ → Rep c.K F d v → ∀ Q : St → Hp → Prop, (∀ σ', Slots c.K F ρ' σ' → (∀ vs, (∀ i ∈ is, i ∈ vs) → wipe σ' vs = wipe σ vs) → Q σ' H) → g v σ H Q
theorem wipe_set {i : Nat} {s : Option V} : ∀ {vs : List Nat} {σ : St}, i ∈ vs → wipe (σ.set i s) vs = wipe σ vs
  | [], _, h => by cases h
  | v :: vs, σ, h => by
    show (wipe (σ.set i s) vs).set v none = (wipe σ vs).set v none
    by_cases hi : i ∈ vs
    · rw [wipe_set hi]
    · have e : i = v := (List.mem_cons.mp h).resolve_right hi
      subst e
      apply List.ext_getElem?
      intro j
      by_cases hj : i = j
      · subst hj
        simp [List.getElem?_set, wipe_length]
      · rw [List.getElem?_set_ne hj, List.getElem?_set_ne hj]
        have key : ∀ (vs : List Nat) (σ : St), (wipe (σ.set i s) vs)[j]? = (wipe σ vs)[j]? := fun vs => by
          induction vs with
          | nil => intro σ; exact List.getElem?_set_ne hj
          | cons u us ih =>
            intro σ
            show ((wipe (σ.set i s) us).set u none)[j]? = ((wipe σ us).set u none)[j]?
            by_cases hu : u = j
            · subst hu
              simp [List.getElem?_set, wipe_length]
            · rw [List.getElem?_set_ne hu, List.getElem?_set_ne hu]
              exact ih σ
        exact key vs σ
theorem wipe_idem : ∀ (vs : List Nat) (σ : St), wipe (wipe σ vs) vs = wipe σ vs
  | [], _ => rfl
  | v :: vs, σ => by
    show (wipe ((wipe σ vs).set v none) vs).set v none = (wipe σ vs).set v none
    have e : ∀ τ : St, (wipe (τ.set v none) vs).set v none = (wipe τ vs).set v none := fun τ => wipe_set (vs := v :: vs) (List.mem_cons_self ..)
    rw [e, wipe_idem vs σ]
theorem pgn_name {nm : Str} {i : Nat} (hp : c.N[i]? = some nm) (hd : c.N.Nodup) (hl : LocC c nm := by first | exact Or.inl rfl | exact Or.inr ⟨rfl, rfl⟩) : PGn c (.Name nm pos) [i] (fun d ρ ρ' => ∃ f, Put ρ nm f ∧ ρ' = f (some d)) := by
  have hi := hp
  refine ⟨gName i, fun X hX => pg_name hX.nd (by rw [hX.N]; exact hi) ?_ ?_, fun d ρ ρ' ⟨f, hp, e⟩ hE => ⟨?_, fun F σ H M v S L r Q q => ?_⟩⟩
  · rcases hl with hl | ⟨_, hl⟩
    · exact .inl (by rw [hX.sc]; exact hl)
    · exact .inr (by rw [hX.sc]; exact hl)
  · rcases hl with hl | ⟨ht, _⟩
    · exact .inr (by rw [hX.sc]; exact hl)
    · exact .inl (hX.fn _ ht)
  · subst e
    obtain ⟨j, h1, h2, h3⟩ := hp.ix
    exact ⟨(h2 _).trans hE.1, hE.2⟩
  · subst e
    exact q _ (put_ok hp hE hi L r).2 fun vs hv => wipe_set (hv i (List.mem_cons_self ..))
def PGsn (c : Cfg) (tgs : List Expr) (is : List Nat) (f : List D → Env → Env → Prop) : Prop := ∃ g : TGs, (∀ X, c.Has X → PGs X tgs g) ∧
  ∀ ds ρ ρ', f ds ρ ρ' → EnvOk c ρ → EnvOk c ρ' ∧ ∀ F σ H M vs, Sit c.K F M H → Slots c.K F ρ σ → Reps c.K F ds vs → ∀ Q : St → Hp → Prop, (∀ σ', Slots c.K F ρ' σ' → (∀ vs, (∀ i ∈ is, i ∈ vs) → wipe σ' vs = wipe σ vs) → Q σ' H) → g vs σ H Q
theorem pgsn_nil : PGsn c [] [] (fun ds ρ ρ' => ds = [] ∧ ρ' = ρ) := ⟨gNil, fun X _ => pgs_nil, fun ds ρ ρ' ⟨e1, e2⟩ hE => by
  subst e1 e2
  exact ⟨hE, fun F σ H M vs S L r Q q => ⟨reps_nil.mp r, q σ L fun _ _ => rfl⟩⟩⟩
theorem pgsn_cons {f : D → Env → Env → Prop} {fs : List D → Env → Env → Prop} {is js : List Nat} (h : PGn c e is f) (hs : PGsn c es js fs) (ht : ∀ env : PySem.Env, (assignEach (e :: es) env).map (·.2) = assign e env :: (assignEach es env).map (·.2) := by intro _; rfl) : PGsn c (e :: es) (is ++ js) (fun ds ρ ρ' => ∃ d r ρ1, ds = d :: r ∧ f d ρ ρ1 ∧ fs r ρ1 ρ') := by
  obtain ⟨g, a, b⟩ := h
  obtain ⟨gs, a2, b2⟩ := hs
  refine ⟨gCons g gs, fun X hX => pgs_cons (a X hX) (a2 X hX) (ht _), fun ds ρ ρ' ⟨d, r, ρ1, e, h1, h2⟩ hE => ?_⟩
  subst e
  obtain ⟨E1, k1⟩ := b d ρ ρ1 h1 hE
  obtain ⟨E2, k2⟩ := b2 r ρ1 ρ' h2 E1
  refine ⟨E2, fun F σ H M vs S L rs Q q => ?_⟩
  obtain ⟨v, r', rfl, r1, r2⟩ := reps_cons.mp rs
  exact ⟨v, r', rfl, k1 F σ H M v S L r1 _ fun σ1 L1 w1 => k2 F σ1 H M r' S L1 r2 Q fun σ2 L2 w2 => q σ2 L2 fun vs hv => (w2 vs fun i hi => hv i (List.mem_append_right _ hi)).trans (w1 vs fun i hi => hv i (List.mem_append_left _ hi))⟩
theorem pgn_tup {k : Nat} {fs : List D → Env → Env → Prop} {is : List Nat} (h : PGsn c es is fs) (h1 : ∀ env : PySem.Env, (assignEach es env).findIdx? (·.1) = none := by intro _; rfl) (h2 : ∀ env : PySem.Env, (assignEach es env).length = es.length := by intro _; rfl) : PGn c (.Tuple es k pos) is (fun d ρ ρ' => ∃ ds, d = .tup ds ∧ ds.length = es.length ∧ fs ds ρ ρ') := by
  obtain ⟨g, a, b⟩ := h
  refine ⟨gTup c.K es.length g, fun X hX => by rw [← hX.K]; exact pg_tup hX.calm (a X hX) (h2 _) (h1 _), fun d ρ ρ' ⟨ds, e, hl, h1⟩ hE => ?_⟩
  subst e
  obtain ⟨E1, k1⟩ := b ds ρ ρ' h1 hE
  refine ⟨E1, fun F σ H M v S L r Q q => ?_⟩
  obtain ⟨p, vs, rfl, hp, rs⟩ := rep_tup.mp r
  exact ⟨p, vs, rfl, sqt_up S hp, by rw [rs.len, hl], k1 F σ H M vs S L rs Q q⟩
theorem ps_for' {Φ : Mem → Prop} {f : D → Env → Env → Prop} {is : List Nat} (hi : PInM c tg iter ρ M xs M1 Φ) (hg : PGn c tg is f) (I : Nat → Env → Mem → Prop) (hΦ : ∀ i ρ M, I i ρ M → Φ M) (h0 : I 0 ρ M1)
    (hs : ∀ i x ρ M, xs[i]? = some x → I i ρ M → ∃ ρ', f x ρ ρ' ∧ PSsn c body ρ' M { P with nx := I (i + 1), ct := I (i + 1), bk := P.nx })
    (hd : ∀ ρ M, I xs.length ρ M → P.nx ρ M) (hf : ∀ (env : PySem.Env) x, foldedSetIterable iter env x = pure x := by intro _ _; rfl) : PSn c (.For tg iter body [] pos) ρ M P := .mk fun hE => by
  obtain ⟨wi, w1, w2⟩ := hi.out hE
  obtain ⟨g, g1, g2⟩ := hg
  refine ⟨tFor wi g (starS c body), fun X hX => ps_for hX.po hX.calm (w1 X hX) (g1 X hX) (starS_ok X hX) (hf _), fun F0 σ0 H0 S0 L0 D f0 => w2 F0 σ0 H0 S0 L0 _ fun F1 H1 J S1 go1 W => ?_⟩
  refine ⟨fun i m σ H => m = xs.length - i ∧ i ≤ xs.length ∧ ∃ F ρ M, I i ρ M ∧ EnvOk c ρ ∧ Sit c.K F M H ∧ Slots c.K F ρ σ ∧ Go M1 F1 H1 M F H, ⟨_, rfl, Nat.zero_le _, F1, ρ, M1, h0, hE, S1, L0.mono go1.ff, Go.refl⟩, ?_⟩
  rintro i m σ H ⟨rfl, hi, F, ρ, M, i0, hE, S, L, go⟩
  obtain ⟨Wi, Ws⟩ := W F H M go.ff S (hΦ _ _ _ i0)
  by_cases hlt : i < xs.length
  · obtain ⟨jg, jy⟩ := Wi i xs[i] (by simp [hlt])
    refine .inr ⟨jg, fun σ' H' => ∃ F ρ M, I (i + 1) ρ M ∧ EnvOk c ρ ∧ Sit c.K F M H' ∧ Slots c.K F ρ σ' ∧ Go M1 F1 H1 M F H', fun σ' H' x => ⟨xs.length - (i + 1), by omega, rfl, hlt, x⟩, fun v H3 y => ?_⟩
    obtain ⟨F3, r3, S3, go3⟩ := jy v H3 y
    obtain ⟨ρ', hf', hb⟩ := hs i xs[i] ρ M (by simp [hlt]) i0
    obtain ⟨E', k⟩ := g2 _ ρ ρ' hf' hE
    refine k F3 σ H3 M v S3 (L.mono go3.ff) r3 _ fun σ2 L2 _ => ?_
    have gg := go.trans go3
    exact starS_ev hb E' F3 σ2 H3 S3 L2 _ ⟨fun F' H' ρ' σ' M' n hE' S' L' g' => ⟨F', ρ', M', n, hE', S', L', gg.trans g'⟩, fun F' H' v d M' r S' g' p => f0.rt F' H' v d M' r S' (go1.trans (gg.trans g')) p,
      fun F' H' ρ' σ' M' n hE' S' L' g' => f0.nx F' H' ρ' σ' M' n hE' S' L' (go1.trans (gg.trans g')), fun F' H' ρ' σ' M' n hE' S' L' g' => ⟨F', ρ', M', n, hE', S', L', gg.trans g'⟩⟩
  · have e : i = xs.length := by omega
    subst e
    exact .inl ⟨Ws, f0.nx F H ρ σ M (hd ρ M i0) hE S L (go1.trans go)⟩
end
end Dl

set_option Elab.async false
set_option linter.all false
set_option maxRecDepth 100000
set_option maxHeartbeats 2000000
/-! Dl: F: defs, calls, new objects. -/
namespace Dl
open PySem PySem.Spec L2
/-- a def in data: with ds and the memory M it gives d and leaves M' -/
abbrev DRel := List D → Mem → D → Mem → Prop
def spD (K : PySem.W.Frag) (rel : DRel) : Sp := fun vs H Q _ => ∃ F ds M d M', rel ds M d M' ∧ Sit K F M H ∧ Reps K F ds vs ∧ ∀ F' H' v, Sit K F' M' H' → Go M F H M' F' H' → Rep K F' d v → Q v H'
/-- the module's def x keeps rel, at level k -/
structure FnS (P : Program) (w : World) (K : PySem.W.Frag) (mg : Str → Option Value) (base : Heap) (x : Str) (k : Nat) (dfl : List D) (rel : DRel) : Prop where
  ex : ∃ (f : Addr) (fd : FuncData) (ps : List Str) (dvs : List V) (dus : List Value), mg x = some (.ref f) ∧ PySem.W.keepIn K (.ref f) = true ∧ Binds K fd ps dus ∧ Vals dvs dus ∧ (∀ F, Reps K F dfl dvs) ∧ FnOk P w K mg base CX0 k f fd ps (spD K rel)
/-- the method m of the class at C -/
structure MtS (P : Program) (w : World) (K : PySem.W.Frag) (mg : Str → Option Value) (base : Heap) (C : Addr) (m : Str) (k : Nat) (dfl : List D) (rel : DRel) : Prop where
  cls : Cls K C
  ex : ∃ (f : Addr) (fd : FuncData) (ps : List Str) (dvs : List V) (dus : List Value), Meth K C m f ∧ Binds K fd ps dus ∧ Vals dvs dus ∧ (∀ F, Reps K F dfl dvs) ∧ FnOk P w K mg base CX0 k f fd ps (spD K rel)
/-- C(..): what __init__ makes of the new object -/
structure MkS (P : Program) (w : World) (K : PySem.W.Frag) (mg : Str → Option Value) (base : Heap) (x : Str) (C : Addr) (k : Nat) (dfl : List D) (rel : DRel) : Prop where
  ex : ∃ (f : Addr) (fd : FuncData) (ps : List Str) (dvs : List V) (dus : List Value), mg x = some (.ref C) ∧ Mk K C f ∧ Binds K fd ps dus ∧ Vals dvs dus ∧ (∀ F, Reps K F dfl dvs) ∧ FnOk P w K mg base CX0 k f fd ps (spD K rel)
section
variable {K : PySem.W.Frag} {F F' H H' : Hp} {M M' Mc Mc' Mr : Mem} {p : Addr} {o o' : MO}
theorem adr_app : adr (Mc ++ Mr) = adr Mc ++ adr Mr := List.map_append
theorem MOk.split : MOk K F H (Mc ++ Mr) ↔ MOk K F H Mc ∧ MOk K F H Mr ∧ ∀ q ∈ adr Mc, q ∉ adr Mr := by
  induction Mc with
  | nil => exact ⟨fun h => ⟨trivial, h, fun q hq => by cases hq⟩, fun h => h.2.1⟩
  | cons x m ih =>
    obtain ⟨p, o⟩ := x
    constructor
    · rintro ⟨h1, h2, h3, h4⟩
      rw [show adr (List.append m Mr) = adr m ++ adr Mr from adr_app] at h3
      obtain ⟨i1, i2, i3⟩ := ih.mp h4
      exact ⟨⟨h1, h2, fun z => h3 (List.mem_append_left _ z), i1⟩, i2, fun q hq => by
        rcases List.mem_cons.mp hq with e | hq
        · subst e; exact fun z => h3 (List.mem_append_right _ z)
        · exact i3 q hq⟩
    · rintro ⟨⟨h1, h2, h3, h4⟩, h5, h6⟩
      refine ⟨h1, h2, ?_, ih.mpr ⟨h4, h5, fun q hq => h6 q (List.mem_cons_of_mem _ hq)⟩⟩
      rw [show adr (List.append m Mr) = adr m ++ adr Mr from adr_app]
      intro z
      rcases List.mem_append.mp z with z | z
      · exact h3 z
      · exact h6 p (List.mem_cons_self ..) z
/-- what the callee does not get stays -/
theorem frame (S : Sit K F (Mc ++ Mr) H) (S' : Sit K F' Mc' H') (g : Go Mc F H Mc' F' H') : Sit K F' (Mc' ++ Mr) H' ∧ Go (Mc ++ Mr) F H (Mc' ++ Mr) F' H' := by
  obtain ⟨s1, s2, s3⟩ := MOk.split.mp S.ok
  have out : ∀ q ∈ adr Mr, q ∉ adr Mc := fun q hq z => s3 q z hq
  refine ⟨⟨S'.fh, MOk.split.mpr ⟨S'.ok, s2.step g.ff (fun q hq => g.nw q (s2.out hq).2 (s2.out hq).1 (out q hq)) fun q hq u e => g.hh q u (out q hq) e, fun q hq z => ?_⟩⟩, g.ff, fun b u hb e => g.hh b u (fun z => hb (by rw [adr_app]; exact List.mem_append_left _ z)) e, fun b hb e hn => g.nw b hb e fun z => hn (by rw [adr_app]; exact List.mem_append_left _ z), fun q hq => ?_⟩
  · rcases g.nm q hq with e | e
    · exact s3 q e z
    · exact (s2.out z).2 e
  · rw [adr_app] at hq ⊢
    rcases List.mem_append.mp hq with z | z
    · rcases g.nm q z with e | e
      · exact .inl (List.mem_append_left _ e)
      · exact .inr e
    · exact .inl (List.mem_append_right _ z)
theorem MCut.front (a : MCut M p o Mr) (S : Sit K F M H) : Sit K F ((p, o) :: Mr) H := by
  obtain ⟨h1, h2⟩ := a.ok S.ok
  obtain ⟨h3, h4⟩ := a.at_.get S.ok
  exact ⟨S.fh, h3, h4, h2, h1⟩
theorem MCut.mem_iff (a : MCut M p o Mr) : ∀ q, q ∈ adr M ↔ q = p ∨ q ∈ adr Mr := by
  induction a with
  | here => intro q; exact List.mem_cons
  | there _ ih =>
    intro q
    refine List.mem_cons.trans ?_
    refine Iff.trans (or_congr Iff.rfl (ih q)) (Iff.trans ?_ (or_congr Iff.rfl List.mem_cons.symm))
    constructor
    · rintro (h | h | h)
      · exact .inr (.inl h)
      · exact .inl h
      · exact .inr (.inr h)
    · rintro (h | h | h)
      · exact .inr (.inl h)
      · exact .inl h
      · exact .inr (.inr h)
/-- put back -/
theorem MCut.back {M2 : Mem} (a : MCut M2 p o' Mr) (S : Sit K F ((p, o') :: Mr) H) : Sit K F M2 H := by
  refine ⟨S.fh, ?_⟩
  have h := S.ok
  clear S
  induction a with
  | here => exact h
  | @there q o1 m p o m' a ih =>
    obtain ⟨h1, h2, h3, ⟨h4, h5, h6, h7⟩⟩ := h
    have e3 : p ≠ q ∧ p ∉ adr m' := ⟨fun z => h3 (by rw [z]; exact List.mem_cons_self ..), fun z => h3 (List.mem_cons_of_mem _ z)⟩
    refine ⟨h4, h5, fun z => ?_, ih ⟨h1, h2, e3.2, h7⟩⟩
    rcases (a.mem_iff q).mp z with z | z
    · exact e3.1 z.symm
    · exact h6 z
theorem go_adr {M1 M2 : Mem} (g : Go M F H M' F' H') (e1 : ∀ q, q ∈ adr M1 ↔ q ∈ adr M) (e2 : ∀ q, q ∈ adr M2 ↔ q ∈ adr M') : Go M1 F H M2 F' H' :=
  ⟨g.ff, fun b o hb e => g.hh b o (fun z => hb ((e1 b).mpr z)) e, fun b h1 h2 h3 => g.nw b h1 h2 fun z => h3 ((e1 b).mpr z), fun q hq => (g.nm q ((e2 q).mp hq)).imp (e1 q).mpr id⟩
end
section
variable {c : Cfg} {ρ ρ' : Env} {M M1 M2 M3 M' Mr : Mem} {pos p2 p3 apos cpos : Pos} {e a b o : Expr} {es : List Expr} {x y z d : D} {xs ys ds dfl : List D} {nm m : Str} {k : Nat} {rel : DRel} {C p : Addr} {fs : List (Str × D)}
/-- what a call does with the memory: nothing | one object of it goes in | two -/
inductive CallM (rel : DRel) : List D → Mem → D → Mem → Prop where
  | none {ds : List D} {M : Mem} {d : D} : rel ds [] d [] → CallM rel ds M d M
  | one {ds : List D} {M : Mem} {d : D} {p : Addr} {o o' : MO} {Mr M' : Mem} : MCut M p o Mr → rel ds [(p, o)] d [(p, o')] → MCut M' p o' Mr → CallM rel ds M d M'
theorem callM_run (h : CallM rel ds M1 d M') {K : PySem.W.Frag} {F H : Hp} {vs : List V} {Q : VK} {E : XK} (S : Sit K F M1 H) (r : Reps K F ds vs) (q : ∀ F' H' v, Sit K F' M' H' → Go M1 F H M' F' H' → Rep K F' d v → Q v H') : spD K rel vs H Q E := by
  cases h with
  | none h => exact ⟨F, ds, [], d, [], h, ⟨S.fh, trivial⟩, r, fun F' H' v S' g r' => by
      obtain ⟨S2, g2⟩ := frame (Mc := []) (Mr := M1) S S' g
      exact q F' H' v S2 g2 r'⟩
  | @one p o o' Mr _ a h b => exact ⟨F, ds, [(p, o)], d, [(p, o')], h, ⟨S.fh, (MOk.split.mp (show MOk K F H ([(p, o)] ++ Mr) from (a.front S).ok)).1⟩, r, fun F' H' v S' g r' => by
      obtain ⟨S2, g2⟩ := frame (Mc := [(p, o)]) (Mr := Mr) (a.front S) S' g
      exact q F' H' v (b.back S2) (go_adr g2 (fun q => by rw [a.mem_iff]; exact List.mem_cons.symm) fun q => by rw [b.mem_iff]; exact List.mem_cons.symm) r'⟩
/-- f(e, ..) -/
theorem pv_call (G : FnS c.P c.w c.K c.mg c.base nm k dfl rel) (ha : PAs c (e :: es) ρ M ds M1) (h : CallM rel (ds ++ dfl) M1 d M') (hk : k ≤ c.k := by dsimp only; decide) (hg : GlC c nm := by rfl) (hdb : (nm == ("__debug__" : Str)) = false := by decide)
    (he : ∀ env : PySem.Env, starEach (e :: es) env = (false, eval e env) :: starEach es env := by intro _; rfl) (hpl : ∀ env : PySem.Env, (backTo pos (starEach es env)).any (·.1) = false := by intro _; rfl) : PV c (.Call (.Name nm p2) (e :: es) [] pos) ρ M d M' := .mk fun hE => by
  obtain ⟨ta, a1, a2⟩ := ha.out hE
  obtain ⟨f, fd, ps, dvs, dus, hm, hkp, hb, hv, hrv, hF⟩ := G.ex
  refine ⟨tCall (spD c.K rel) dvs E0 ta, fun X hX => pe_call (by rw [hX.P, hX.w, hX.K, hX.mg, hX.base]; exact hF) (hX.room.mono hk) (hg.gl hX) (by rw [hX.mg]; exact hm) (by rw [hX.K]; exact hkp) (by rw [hX.K]; exact hb) hv pass0 (a1 X hX) hdb (he _) (hpl _), fun F σ H S L Q q => a2 F σ H S L _ fun F1 H1 vs ds' M1' ⟨e1, e2⟩ S1 g1 p1 => ?_⟩
  subst e1 e2
  exact callM_run h S1 (p1.append (hrv F1)) fun F' H' v S' g r => q F' H' v _ _ ⟨rfl, rfl⟩ S' (g1.trans g) r
/-- o.m(e, ..) of an object that never changes -/
theorem pv_meth (ho : PV c o ρ M (.obj C fs) M1) (G : MtS c.P c.w c.K c.mg c.base C m k dfl rel) (hl : fs.lookup m = none) (ha : PAs c (e :: es) ρ M1 ds M2) (h : CallM rel (.obj C fs :: (ds ++ dfl)) M2 d M') (hk : k ≤ c.k := by dsimp only; decide)
    (hst : ∀ env : PySem.Env, starEach (e :: es) env = (false, eval e env) :: starEach es env := by intro _; rfl) (hpl : ∀ env : PySem.Env, (backTo pos (starEach es env)).any (·.1) = false := by intro _; rfl)
    {pl : PySem.Env → Sem Bool} (ht : ∀ env : PySem.Env, eval (.Call (.Attribute o m apos) (e :: es) [] pos) env = (do
      let ov ← eval o env
      standAt apos.atName
      let (f, first) ← holding [ov] (getMethod ov m (pl env))
      callWith pos f first (backTo pos (starEach (e :: es) env)) (backToKw pos (keywordEach [] env))) := by intro _; rfl) : PV c (.Call (.Attribute o m apos) (e :: es) [] pos) ρ M d M' := .mk fun hE => by
  obtain ⟨to, o1, o2⟩ := ho.out hE
  obtain ⟨ta, a1, a2⟩ := ha.out hE
  obtain ⟨f, fd, ps, dvs, dus, hm, hb, hv, hrv, hF⟩ := G.ex
  refine ⟨tMeth C m (spD c.K rel) dvs E0 to ta, fun X hX => pe_meth (o1 X hX) (by rw [hX.K]; exact G.cls) (by rw [hX.K]; exact hm) (by rw [hX.P, hX.w, hX.K, hX.mg, hX.base]; exact hF) (hX.room.mono hk) (by rw [hX.K]; exact hb) hv pass0 (a1 X hX) (hst _) (hpl _) (ht _),
    fun F σ H S L Q q => o2 F σ H S L _ fun F0 H0 v x M0 ⟨e1, e2⟩ S0 g0 p0 => ?_⟩
  subst e1 e2
  obtain ⟨p, dx, ws, rfl, hp, rf⟩ := rep_obj.mp p0
  refine ⟨p, dx, ws, rfl, S0.fh _ _ hp, rf.look_none hl, a2 F0 σ H0 S0 (L.mono g0.ff) _ fun F1 H1 vs ds' M1' ⟨e1, e2⟩ S1 g1 p1 => ?_⟩
  subst e1 e2
  exact callM_run h S1 (reps_cons.mpr ⟨_, _, rfl, p0.mono g1.ff, p1.append (hrv F1)⟩) fun F' H' v S' g r => q F' H' v _ _ ⟨rfl, rfl⟩ S' ((g0.trans g1).trans g) r
theorem pv_meth0 (ho : PV c o ρ M (.obj C fs) M1) (G : MtS c.P c.w c.K c.mg c.base C m k dfl rel) (hl : fs.lookup m = none) (h : CallM rel (.obj C fs :: dfl) M1 d M') (hk : k ≤ c.k := by dsimp only; decide)
    {pl : PySem.Env → Sem Bool} (ht : ∀ env : PySem.Env, eval (.Call (.Attribute o m apos) [] [] pos) env = (do
      let ov ← eval o env
      standAt apos.atName
      let (f, first) ← holding [ov] (getMethod ov m (pl env))
      callWith pos f first (backTo pos (starEach [] env)) (backToKw pos (keywordEach [] env))) := by intro _; rfl) : PV c (.Call (.Attribute o m apos) [] [] pos) ρ M d M' := .mk fun hE => by
  obtain ⟨to, o1, o2⟩ := ho.out hE
  obtain ⟨f, fd, ps, dvs, dus, hm, hb, hv, hrv, hF⟩ := G.ex
  refine ⟨tMeth C m (spD c.K rel) dvs E0 to tNil, fun X hX => pe_meth0 (o1 X hX) (by rw [hX.K]; exact G.cls) (by rw [hX.K]; exact hm) (by rw [hX.P, hX.w, hX.K, hX.mg, hX.base]; exact hF) (hX.room.mono hk) (by rw [hX.K]; exact hb) hv pass0 (ht _),
    fun F σ H S L Q q => o2 F σ H S L _ fun F0 H0 v x M0 ⟨e1, e2⟩ S0 g0 p0 => ?_⟩
  subst e1 e2
  obtain ⟨p, dx, ws, rfl, hp, rf⟩ := rep_obj.mp p0
  exact ⟨p, dx, ws, rfl, S0.fh _ _ hp, rf.look_none hl, callM_run (E := E0) h S0 (reps_cons.mpr ⟨_, _, rfl, p0, hrv F0⟩) fun F' H' v S' g r => q F' H' v _ _ ⟨rfl, rfl⟩ S' (g0.trans g) r⟩
/-- C(e, ..), an object that never changes from then on -/
theorem pv_make {M0 : Mem} (G : MkS c.P c.w c.K c.mg c.base nm C k dfl rel) (ha : PAs c (e :: es) ρ M ds M1) (h : ∀ p, rel (.ref p :: (ds ++ dfl)) [(p, .ins C [])] .non [(p, .ins C fs)]) (hk : k + 1 ≤ c.k := by dsimp only; decide) (hg : GlC c nm := by rfl) (hdb : (nm == ("__debug__" : Str)) = false := by decide)
    (he : ∀ env : PySem.Env, starEach (e :: es) env = (false, eval e env) :: starEach es env := by intro _; rfl) (hpl : ∀ env : PySem.Env, (backTo pos (starEach es env)).any (·.1) = false := by intro _; rfl) : PV c (.Call (.Name nm p2) (e :: es) [] pos) ρ M (.obj C fs) M1 := .mk fun hE => by
  obtain ⟨ta, a1, a2⟩ := ha.out hE
  obtain ⟨f, fd, ps, dvs, dus, hm, hmk, hb, hv, hrv, hF⟩ := G.ex
  refine ⟨tMake C (spD c.K rel) dvs E0 ta, fun X hX => pe_make (by rw [hX.K]; exact hmk) (by rw [hX.P, hX.w, hX.K, hX.mg, hX.base]; exact hF) (hX.room.mono hk) (hg.gl hX) (by rw [hX.mg]; exact hm) (by rw [hX.K]; exact hb) hv pass0 (a1 X hX) hdb (he _) (hpl _),
    fun F σ H S L Q q => a2 F σ H S L _ fun F1 H1 vs ds' M1' ⟨e1, e2⟩ S1 g1 p1 x dx hx hdx hne => ?_⟩
  subst e1 e2
  have hF1 : F1 dx = none := S1.fh.free hdx
  have S2 : Sit c.K F1 M1' (upd H1 dx (.own x)) := ⟨fun b u e => by rw [upd_ne (ne_of_none e hF1)]; exact S1.fh b u e, S1.ok.step (Same.refl _) (fun q hq => (S1.ok.out hq).1) fun q hq u e => by rw [upd_ne (ne_of_none e hdx)]; exact e⟩
  have g2 : Go M1' F1 H1 M1' F1 (upd H1 dx (.own x)) := ⟨Same.refl _, fun b u _ e => by rw [upd_ne (ne_of_none e hdx)]; exact e, fun _ _ e _ => e, fun _ h => .inl h⟩
  obtain ⟨S3, g3⟩ := S2.newM (p := x) (o := .ins C []) (u := .ins C dx []) (by rw [upd_ne hne.symm]; exact hx) ⟨dx, [], rfl, repF_nil.mpr rfl⟩
  refine ⟨F1, .ref x :: (ds' ++ dfl), [(x, .ins C [])], .non, [(x, .ins C fs)], h x, ⟨S3.fh, (MOk.split.mp (show MOk c.K F1 _ ([(x, .ins C [])] ++ M1') from S3.ok)).1⟩, reps_cons.mpr ⟨_, _, rfl, rep_ref.mpr rfl, p1.append (hrv F1)⟩, fun F' H' v S' g r => ⟨rep_non.mp r, ?_⟩⟩
  obtain ⟨S4, g4⟩ := frame (Mc := [(x, .ins C [])]) (Mr := M1') S3 S' g
  obtain ⟨u, hu, ⟨dx', ws, rfl, rf⟩, sf, S5, g5⟩ := S4.freeze (p := x) (o := .ins C fs) .here
  exact q _ _ _ _ _ ⟨rfl, rfl⟩ S5 (g1.trans (g2.trans (g3.trans (g4.trans g5)))) (rep_obj.mpr ⟨x, dx', ws, rfl, upd_same, rf.mono sf⟩)
/-! o.f = e, in __init__ -/
def putFd (f : Str) (d : D) : List (Str × D) → List (Str × D)
  | [] => [(f, d)]
  | (g, y) :: r => if g = f then (f, d) :: r else (g, y) :: putFd f d r
theorem RepF.put {K : PySem.W.Frag} {F : Hp} {f : Str} {v : V} (r : Rep K F d v) : ∀ {fs : List (Str × D)} {ws : List (Str × V)}, RepF K F fs ws → RepF K F (putFd f d fs) (putF f v ws)
  | [], _, h => by rw [repF_nil.mp h]; exact repF_cons.mpr ⟨_, _, rfl, r, repF_nil.mpr rfl⟩
  | (g, y) :: fs, _, h => by
    obtain ⟨u, t, rfl, h1, h2⟩ := repF_cons.mp h
    show RepF K F (if g = f then _ else _) (if g = f then _ else _)
    by_cases e : g = f
    · subst e; rw [if_pos rfl, if_pos rfl]; exact repF_cons.mpr ⟨_, _, rfl, r, h2⟩
    · rw [if_neg e, if_neg e]; exact repF_cons.mpr ⟨_, _, rfl, h1, RepF.put r h2⟩
theorem ps_fld' {P : Post} {f : Str} (hv : PV c e ρ M d M1) (ho : PV c o ρ M1 (.ref p) M2) (hm : MAt M2 p (.ins C fs)) (k : FlK c.K c.mg C f) (hl : fs.length < 1000) (hp : MPut M2 p (.ins C (putFd f d fs)) M3) (q : P.nx ρ M3)
    (hs : ∀ env : PySem.Env, swapsWith e (some (.Attribute o f p2)) pos.line env = pure false := by intro _; rfl) : PSn c (.Assign [.Attribute o f p2] e pos) ρ M P := .mk fun hE => by
  obtain ⟨tv, a1, a2⟩ := hv.out hE
  obtain ⟨to, o1, o2⟩ := ho.out hE
  refine ⟨sFld c.K to tv f, fun X hX => by rw [← hX.K]; exact ps_fld (o1 X hX) (a1 X hX) (hs _), fun F σ H S L D f' => a2 F σ H S L _ fun F1 H1 v x M1' ⟨e1, e2⟩ S1 g1 p1 => ?_⟩
  subst e1 e2
  refine o2 F1 σ H1 S1 (L.mono g1.ff) _ fun F2 H2 w y M2' ⟨e1, e2⟩ S2 g2 p2 => ?_
  subst e1 e2
  obtain ⟨_, u, hu, dx, ws, rfl, rf⟩ := hm.get S2.ok
  have ep := rep_ref.mp p2
  subst ep
  obtain ⟨S3, g3⟩ := S2.put hp (u := .ins C dx (putF f v ws)) ⟨dx, _, rfl, RepF.put (p1.mono g2.ff) rf⟩
  exact ⟨p, C, dx, ws, rfl, hu, k.cls, k.no, by rw [rf.len]; exact hl, f'.nx _ _ ρ σ M3 q hE S3 (L.mono (g1.ff.trans (g2.ff.trans g3.ff))) (g1.trans (g2.trans g3))⟩
end
/-! the body of a def -/
def start0 : List Str → List D → Env
  | [], _ => []
  | n :: N, d :: ds => (n, some d) :: start0 N ds
  | n :: N, [] => (n, none) :: start0 N []
theorem start0_names : ∀ (N : List Str) (ds : List D), (start0 N ds).map (·.1) = N
  | [], _ => rfl
  | n :: N, d :: ds => congrArg (n :: ·) (start0_names N ds)
  | n :: N, [] => congrArg (n :: ·) (start0_names N [])
theorem slots_nil {K : PySem.W.Frag} {F : Hp} : ∀ N : List Str, Slots K F (start0 N []) (List.replicate N.length none)
  | [] => trivial
  | n :: N => ⟨fun d hd => (nomatch hd), slots_nil N⟩
theorem slots_start {K : PySem.W.Frag} {F : Hp} : ∀ (N : List Str) (ds : List D) (vs : List V), Reps K F ds vs → ds.length ≤ N.length → Slots K F (start0 N ds) (start N vs)
  | N, [], vs, h, _ => by
    rw [reps_nil.mp h]
    show Slots K F _ ([] ++ List.replicate (N.length - 0) none)
    exact slots_nil N
  | [], _ :: _, _, _, hl => by simp at hl
  | n :: N, d :: ds, vs, h, hl => by
    obtain ⟨v, r, rfl, h1, h2⟩ := reps_cons.mp h
    have q := slots_start N ds r h2 (by simpa using hl)
    have e : (start (n :: N) (v :: r)) = some v :: start N r := by
      show some v :: (r.map some ++ List.replicate ((N.length + 1) - (r.length + 1)) none) = some v :: (r.map some ++ List.replicate (N.length - r.length) none)
      rw [Nat.add_sub_add_right]
    rw [e]
    exact ⟨fun d' e => ⟨v, rfl, by cases e; exact h1⟩, q⟩
/-- what is to be shown of a def's body -/
def bodyP (d : D) (M' : Mem) : Post := { nx := fun _ N => d = .non ∧ N = M', rt := is d M' }
theorem fn_body {P : Program} {w : World} {K : PySem.W.Frag} {mg : Str → Option Value} {base : Heap} {f : Addr} {fd : FuncData} {x qual : Str} {params : Arguments} {body : List Stmt} {scope : Scope} {dvs : List V} {kws : List (Str × V)} {N ps : List Str} {k : Nat} {rel : DRel}
    (F : FunD K x qual params body scope dvs kws f fd) (S : FnScope N ps scope) (len : ∀ ds M d M', rel ds M d M' → ds.length = ps.length) (hps : ps.length ≤ N.length)
    (h : ∀ ds M d M', rel ds M d M' → PSsn ⟨P, w, K, mg, base, N, scope, k, (fun _ => true), noW⟩ body (start0 N ds) M (bodyP d M')) : FnOk P w K mg base CX0 (k + 1) f fd ps (spD K rel) := by
  refine F.ok S (fun vs H Q E ⟨F, ds, M, d, M', hr, _, r, _⟩ => by rw [r.len]; exact len _ _ _ _ hr) fun cdv A outer s H vs Q E hr hsp => ?_
  obtain ⟨F0, ds, M, d, M', rl, S0, r, q⟩ := hsp
  obtain ⟨t, a, b⟩ := (h ds M d M' rl).out ⟨start0_names N ds, S.nd⟩
  refine ⟨t, PSs.nox (a _ ⟨rfl, rfl, rfl, rfl, rfl, rfl, S.nd, rfl, rfl, hr, fun _ _ => rfl, takes_no, PassesOwn.never⟩), ?_⟩
  refine b F0 _ H S0 (slots_start N ds vs r (by rw [len _ _ _ _ rl]; exact hps)) _ ⟨fun F' H' ρ' σ' M2 ⟨e1, e2⟩ _ S' _ g => ?_, fun F' H' v d' M2 ⟨e1, e2⟩ S' g r' => ?_, fun _ _ _ _ _ z => z.elim, fun _ _ _ _ _ z => z.elim⟩
  · subst e1 e2
    exact q F' H' _ S' g (rep_non.mpr rfl)
  · subst e1 e2
    exact q F' H' v S' g r'
end Dl
namespace Dl
open PySem PySem.Spec L2
section
variable {P : Program} {w : World} {K : PySem.W.Frag} {mg : Str → Option Value} {base : Heap} {f C : Addr} {x nm m qual : Str} {params : Arguments} {body : List Stmt} {scope : Scope} {dvs : List V} {kws : List (Str × V)} {N ps : List Str} {k : Nat} {rel : DRel}
theorem fns_mk {kv : List (Str × V)} (hF : ∃ fd, FunD K nm qual params body scope [] kv f fd) (hm : mg nm = some (.ref f)) (S : FnScope N ps scope) (hps : ps.length ≤ N.length)
    (hb : ∀ (kV doc pm : Value) (an : Option Addr) (cdv ct : Value) (us : List Value), us.length = ps.length → bindArgs (PySem.W.fnOf nm qual params body scope .none kV doc pm an cdv ct) ⟨us, []⟩ = pure (ps.zip us))
    (len : ∀ ds M d M', rel ds M d M' → ds.length = ps.length) (h : ∀ ds M d M', rel ds M d M' → PSsn ⟨P, w, K, mg, base, N, scope, k, (fun _ => true), noW⟩ body (start0 N ds) M (bodyP d M')) : FnS P w K mg base nm (k + 1) [] rel := by
  obtain ⟨fd, F⟩ := hF
  exact ⟨⟨f, fd, ps, [], [], hm, F.kp, F.bindsN hb, .nil, fun _ => reps_nil.mpr rfl, fn_body F S len hps h⟩⟩
theorem mts_mk {kv : List (Str × V)} (hF : ∃ fd, FunD K m qual params body scope [] kv f fd) (hc : Cls K C) (hm : Meth K C m f) (S : FnScope N ps scope) (hps : ps.length ≤ N.length)
    (hb : ∀ (kV doc pm : Value) (an : Option Addr) (cdv ct : Value) (us : List Value), us.length = ps.length → bindArgs (PySem.W.fnOf m qual params body scope .none kV doc pm an cdv ct) ⟨us, []⟩ = pure (ps.zip us))
    (len : ∀ ds M d M', rel ds M d M' → ds.length = ps.length) (h : ∀ ds M d M', rel ds M d M' → PSsn ⟨P, w, K, mg, base, N, scope, k, (fun _ => true), noW⟩ body (start0 N ds) M (bodyP d M')) : MtS P w K mg base C m (k + 1) [] rel := by
  obtain ⟨fd, F⟩ := hF
  exact ⟨hc, ⟨f, fd, ps, [], [], hm, F.bindsN hb, .nil, fun _ => reps_nil.mpr rfl, fn_body F S len hps h⟩⟩
theorem mks_mk {kv : List (Str × V)} (hF : ∃ fd, FunD K m qual params body scope [] kv f fd) (hg : mg x = some (.ref C)) (hm : Mk K C f) (S : FnScope N ps scope) (hps : ps.length ≤ N.length)
    (hb : ∀ (kV doc pm : Value) (an : Option Addr) (cdv ct : Value) (us : List Value), us.length = ps.length → bindArgs (PySem.W.fnOf m qual params body scope .none kV doc pm an cdv ct) ⟨us, []⟩ = pure (ps.zip us))
    (len : ∀ ds M d M', rel ds M d M' → ds.length = ps.length) (h : ∀ ds M d M', rel ds M d M' → PSsn ⟨P, w, K, mg, base, N, scope, k, (fun _ => true), noW⟩ body (start0 N ds) M (bodyP d M')) : MkS P w K mg base x C (k + 1) [] rel := by
  obtain ⟨fd, F⟩ := hF
  exact ⟨⟨f, fd, ps, [], [], hg, hm, F.bindsN hb, .nil, fun _ => reps_nil.mpr rfl, fn_body F S len hps h⟩⟩
/-- the defaults are there, all is given -/
theorem mks_mkD (hF : ∃ fd, FunD K m qual params body scope dvs kws f fd) (hd : dvs ≠ []) (hg : mg x = some (.ref C)) (hm : Mk K C f) (S : FnScope N ps scope) (hps : ps.length ≤ N.length)
    (hb : ∀ (T : Addr) (kV doc pm : Value) (an : Option Addr) (cdv ct : Value) (us its : List Value), us.length = ps.length → its.length = dvs.length →
      ∃ k, bindArgs (PySem.W.fnOf m qual params body scope (.ref T) kV doc pm an cdv ct) ⟨us, []⟩ = seqItems? (.ref T) >>= k ∧ k (some its.toArray) = pure (ps.zip (us ++ its.drop dvs.length)))
    (len : ∀ ds M d M', rel ds M d M' → ds.length = ps.length) (h : ∀ ds M d M', rel ds M d M' → PSsn ⟨P, w, K, mg, base, N, scope, k, (fun _ => true), noW⟩ body (start0 N ds) M (bodyP d M')) : MkS P w K mg base x C (k + 1) [] rel := by
  obtain ⟨fd, F⟩ := hF
  obtain ⟨ds, hv, hB⟩ := F.binds1 (ps := ps) ps.length dvs.length hd (by omega) hb
  rw [List.drop_length] at hv
  cases hv
  exact ⟨⟨f, fd, ps, [], [], hg, hm, hB, .nil, fun _ => reps_nil.mpr rfl, fn_body F S len hps h⟩⟩
end
end Dl

set_option Elab.async false
set_option linter.all false
set_option maxRecDepth 100000
set_option maxHeartbeats 2000000
/-! Dl: G: short forms. -/
namespace Dl
open PySem PySem.Spec L2
theorem lk0 {f : Str} {d : D} {r : List (Str × D)} : List.lookup f ((f, d) :: r) = some d := by simp [List.lookup_cons]
theorem lkS {f g : Str} {d : Option D} {x : D} {r : List (Str × D)} (h : (f == g) = false) (q : List.lookup f r = d) : List.lookup f ((g, x) :: r) = d := by rw [List.lookup_cons, h]; exact q
theorem lkN {f : Str} : List.lookup f ([] : List (Str × D)) = none := rfl
theorem nix0 {x : Str} {N : List Str} : (x :: N)[0]? = some x := rfl
theorem nixS {x y : Str} {N : List Str} {i : Nat} (h : N[i]? = some x) : (y :: N)[i + 1]? = some x := h
section
variable {c : Cfg} {ρ ρ' : Env} {M M1 M2 M' : Mem} {pos p2 : Pos} {e : Expr} {d : D} {P : Post} {R : D → Mem → Prop} {sa sb sts : List Stmt} {st : Stmt}
theorem pn_v (h : PV c e ρ M d M1) (q : R d M1) : PN c e ρ M R := .mk fun hE => by
  obtain ⟨t, a, b⟩ := h.out hE
  exact ⟨t, a, fun F σ H S L Q k => b F σ H S L Q fun F' H' v d' M' ⟨e1, e2⟩ S' g r => by subst e1 e2; exact k F' H' v _ _ q S' g r⟩
theorem ss_set {nm : Str} {f : Option D → Env} (hp : Put ρ nm f) (h : PV c e ρ M d M1) (q : PSsn c sts (f (some d)) M1 P)
    (hl : LocC c nm := by first | exact Or.inl rfl | exact Or.inr ⟨rfl, rfl⟩)
    (hs : ∀ env : PySem.Env, swapsWith e (some (.Name nm p2)) pos.line env = pure false := by intro _; rfl) (hw : ∀ env : PySem.Env, swappedStores [.Name nm p2] e env = pure none := by intro _; rfl) : PSsn c (.Assign [.Name nm p2] e pos :: sts) ρ M P :=
  pss_cons' (ps_set' hp (pn_v h q) hl hs hw)
theorem ss_if {k : Bool} (h : PB c e ρ M k M1) (ha : k = true → PSsn c sa ρ M1 { P with nx := fun ρ' M' => PSsn c sts ρ' M' P }) (hb : k = false → PSsn c sb ρ M1 { P with nx := fun ρ' M' => PSsn c sts ρ' M' P }) : PSsn c (.If e sa sb pos :: sts) ρ M P :=
  pss_cons' (ps_if' h ha hb)
theorem ss_ret (h : PV c e ρ M d M1) (q : P.rt d M1) : PSsn c (.Return (some e) pos :: sts) ρ M P := pss_cons' (ps_ret' (pn_v h q))
theorem ss_nil (q : P.nx ρ M) : PSsn c [] ρ M P := pss_nil' q
theorem ss_pass (q : PSsn c sts ρ M P) : PSsn c (.Pass pos :: sts) ρ M P := pss_cons' (ps_pass' q)
theorem ss_expr (h : PV c e ρ M d M1) (q : PSsn c sts ρ M1 P) (hs : ∀ env : PySem.Env, swapsWith e none pos.line env = pure false := by intro _; rfl) : PSsn c (.Expr e pos :: sts) ρ M P := pss_cons' (ps_expr' (pn_v h q) hs)
theorem pt_b {R : Bool → Mem → Prop} {k : Bool} (h : PB c e ρ M k M1) (q : R k M1) : PTn c e ρ M R := .mk fun hE => by
  obtain ⟨t, a, b⟩ := h.out hE
  exact ⟨t, a, fun F σ H S L Q f => b F σ H S L Q fun F' H' k' M' ⟨e1, e2⟩ S' g => by subst e1 e2; exact f F' H' _ _ q S' g⟩
theorem ss_while {body : List Stmt} (I : Nat → Env → Mem → Prop) {n : Nat} (h0 : I n ρ M)
    (hs : ∀ n ρ M, I n ρ M → ∃ k M1, PB c e ρ M k M1 ∧ (k = true → PSsn c body ρ M1 { P with nx := fun ρ' M' => ∃ m, m < n ∧ I m ρ' M', ct := fun ρ' M' => ∃ m, m < n ∧ I m ρ' M', bk := fun ρ' M' => PSsn c sts ρ' M' P }) ∧ (k = false → PSsn c sts ρ M1 P)) : PSsn c (.While e body [] pos :: sts) ρ M P :=
  pss_cons' (ps_while' I h0 fun n ρ M i => by
    obtain ⟨k, M1, h1, h2, h3⟩ := hs n ρ M i
    refine pt_b h1 ?_
    cases k with
    | true => exact h2 rfl
    | false => exact h3 rfl)
theorem ss_for {Φ : Mem → Prop} {tg iter : Expr} {body : List Stmt} {xs : List D} {f : D → Env → Env → Prop} {is : List Nat} (hi : PInM c tg iter ρ M xs M1 Φ) (hg : PGn c tg is f) (I : Nat → Env → Mem → Prop) (h0 : I 0 ρ M1)
    (hs : ∀ i x ρ M, xs[i]? = some x → I i ρ M → ∃ ρ', f x ρ ρ' ∧ PSsn c body ρ' M { P with nx := I (i + 1), ct := I (i + 1), bk := fun ρ' M' => PSsn c sts ρ' M' P })
    (hd : ∀ ρ M, I xs.length ρ M → PSsn c sts ρ M P) (hf : ∀ (env : PySem.Env) x, foldedSetIterable iter env x = pure x := by intro _ _; rfl) (hΦ : ∀ i ρ M, I i ρ M → Φ M := by intros; trivial) : PSsn c (.For tg iter body [] pos :: sts) ρ M P :=
  pss_cons' (ps_for' hi hg I hΦ h0 hs hd hf)
end
end Dl

set_option Elab.async false
set_option linter.all false
set_option maxRecDepth 100000
set_option maxHeartbeats 2000000
/-! Dl: H: built-ins by name. -/
namespace Dl
open PySem PySem.Spec L2
open PyProof.Rows (boot_int boot_str boot_abs boot_min boot_all boot_any boot_tuple boot_list)
section
variable {c : Cfg} {ρ ρ' : Env} {M M1 M2 M' : Mem} {pos p2 apos cpos : Pos} {e a b o : Expr} {es : List Expr} {d x y z : D} {xs ys ds : List D} {n m : Int} {s t : List Nat} {nm : Str}
theorem pv_blt {id : String} {r : List V → Hp → VK → Prop} (ha : PAs c (e :: es) ρ M ds M1) (hf : BltF c.K c.mg nm) (hc : ∀ X, c.Has X → CallR X (.builtin id) r) (hv : bootBuiltins nm = some (.builtin id))
    (hk : ∀ F H vs, Sit c.K F M1 H → Reps c.K F ds vs → ∀ Q : VK, (∀ F' H' u, Sit c.K F' M' H' → Go M1 F H M' F' H' → Rep c.K F' d u → Q u H') → r vs H Q) (hg : GlC c nm := by rfl) (hn : nm ≠ "__name__" := by decide) (hdb : (nm == ("__debug__" : Str)) = false := by decide)
    (he : ∀ env : PySem.Env, starEach (e :: es) env = (false, eval e env) :: starEach es env := by intro _; rfl) (hpl : ∀ env : PySem.Env, (backTo pos (starEach es env)).any (·.1) = false := by intro _; rfl) : PV c (.Call (.Name nm p2) (e :: es) [] pos) ρ M d M' := .mk fun hE => by
  obtain ⟨ta, a1, a2⟩ := ha.out hE
  refine ⟨tCB r ta, fun X hX => pe_callB (hc X hX) (hg.gl hX) (by rw [hX.mg]; exact hf.no) hv (a1 X hX) hn hdb (he _) (hpl _), fun F σ H S L Q q => a2 F σ H S L _ fun F1 H1 vs ds' M1' ⟨e1, e2⟩ S1 g1 p1 => ?_⟩
  subst e1 e2
  exact hk F1 H1 vs S1 p1 Q fun F' H' u S' g r => q F' H' u _ _ ⟨rfl, rfl⟩ S' (g1.trans g) r
theorem pv_bty {id : String} {r : List V → Hp → VK → Prop} (ha : PAs c (e :: es) ρ M ds M1) (hf : BltF c.K c.mg nm) (hc : ∀ X, c.Has X → CallR X (.type id) r) (hv : bootBuiltins nm = some (.type id))
    (hk : ∀ F H vs, Sit c.K F M1 H → Reps c.K F ds vs → ∀ Q : VK, (∀ F' H' u, Sit c.K F' M' H' → Go M1 F H M' F' H' → Rep c.K F' d u → Q u H') → r vs H Q) (hg : GlC c nm := by rfl) (hn : nm ≠ "__name__" := by decide) (hdb : (nm == ("__debug__" : Str)) = false := by decide)
    (he : ∀ env : PySem.Env, starEach (e :: es) env = (false, eval e env) :: starEach es env := by intro _; rfl) (hpl : ∀ env : PySem.Env, (backTo pos (starEach es env)).any (·.1) = false := by intro _; rfl) : PV c (.Call (.Name nm p2) (e :: es) [] pos) ρ M d M' := .mk fun hE => by
  obtain ⟨ta, a1, a2⟩ := ha.out hE
  refine ⟨tCB r ta, fun X hX => pe_callTy (hc X hX) (hg.gl hX) (by rw [hX.mg]; exact hf.no) hv (a1 X hX) hn hdb (he _) (hpl _), fun F σ H S L Q q => a2 F σ H S L _ fun F1 H1 vs ds' M1' ⟨e1, e2⟩ S1 g1 p1 => ?_⟩
  subst e1 e2
  exact hk F1 H1 vs S1 p1 Q fun F' H' u S' g r => q F' H' u _ _ ⟨rfl, rfl⟩ S' (g1.trans g) r
theorem reps1 {K : PySem.W.Frag} {F : Hp} {vs : List V} (h : Reps K F [x] vs) : ∃ v, vs = [v] ∧ Rep K F x v := by
  obtain ⟨v, r, rfl, h1, h2⟩ := reps_cons.mp h
  rw [reps_nil.mp h2]; exact ⟨v, rfl, h1⟩
theorem reps2 {K : PySem.W.Frag} {F : Hp} {vs : List V} (h : Reps K F [x, y] vs) : ∃ v w, vs = [v, w] ∧ Rep K F x v ∧ Rep K F y w := by
  obtain ⟨v, r, rfl, h1, h2⟩ := reps_cons.mp h
  obtain ⟨w, rfl, h3⟩ := reps1 h2
  exact ⟨v, w, rfl, h1, h3⟩
theorem pas1 (h : PV c e ρ M d M1) (hs : ∀ env : PySem.Env, starEach [e] env = (false, eval e env) :: starEach [] env := by intro _; rfl) : PAs c [e] ρ M [d] M1 := pas_cons h pas_nil hs
theorem pas2 (h : PV c a ρ M x M1) (h2 : PV c b ρ M1 y M2) (hs : ∀ env : PySem.Env, starEach [a, b] env = (false, eval a env) :: starEach [b] env := by intro _; rfl) (hs2 : ∀ env : PySem.Env, starEach [b] env = (false, eval b env) :: starEach [] env := by intro _; rfl) : PAs c [a, b] ρ M [x, y] M2 := pas_cons h (pas_cons h2 pas_nil hs2) hs
abbrev Pl1 (e : Expr) : Prop := ∀ env : PySem.Env, starEach [e] env = (false, eval e env) :: starEach [] env
/-! len -/
theorem pv_lenS (h : PV c e ρ M (.str s) M1) (hz : s.length ≤ sizeLine) (hf : BltF c.K c.mg "len") (hg : GlC c "len" := by rfl) (hs : Pl1 e := by intro _; rfl) : PV c (.Call (.Name "len" p2) [e] [] pos) ρ M (.int s.length) M1 :=
  pv_blt (pas1 h hs) hf (fun X _ => call_len_str) boot_len (fun F H vs S r Q q => by
    obtain ⟨v, rfl, r1⟩ := reps1 r
    refine ⟨T s, by rw [rep_str.mp r1], by rw [T_len]; exact hz, ?_⟩
    rw [T_len]; exact q F H _ S Go.refl (rep_int.mpr rfl)) hg (by decide) (by decide) hs
theorem pv_lenL (h : PV c e ρ M (.lst xs) M1) (hf : BltF c.K c.mg "len") (hg : GlC c "len" := by rfl) (hs : Pl1 e := by intro _; rfl) : PV c (.Call (.Name "len" p2) [e] [] pos) ρ M (.int xs.length) M1 :=
  pv_blt (r := fun xs H Q => ∃ p ys, xs = [.ref p] ∧ (SqL c.K H p ys ∨ SqT c.K H p ys) ∧ Q (.int ys.length) H) (pas1 h hs) hf (fun X hX => by rw [← hX.K]; exact call_len_seq) boot_len (fun F H vs S r Q q => by
    obtain ⟨v, rfl, r1⟩ := reps1 r
    obtain ⟨p, vs, rfl, hp, r2⟩ := rep_lstS r1
    refine ⟨p, vs, rfl, .inl (sql_up S hp), ?_⟩
    rw [r2.len]; exact q F H _ S Go.refl (rep_int.mpr rfl)) hg (by decide) (by decide) hs
theorem pv_lenT (h : PV c e ρ M (.tup xs) M1) (hf : BltF c.K c.mg "len") (hg : GlC c "len" := by rfl) (hs : Pl1 e := by intro _; rfl) : PV c (.Call (.Name "len" p2) [e] [] pos) ρ M (.int xs.length) M1 :=
  pv_blt (r := fun xs H Q => ∃ p ys, xs = [.ref p] ∧ (SqL c.K H p ys ∨ SqT c.K H p ys) ∧ Q (.int ys.length) H) (pas1 h hs) hf (fun X hX => by rw [← hX.K]; exact call_len_seq) boot_len (fun F H vs S r Q q => by
    obtain ⟨v, rfl, r1⟩ := reps1 r
    obtain ⟨p, vs, rfl, hp, r2⟩ := rep_tup.mp r1
    refine ⟨p, vs, rfl, .inr (sqt_up S hp), ?_⟩
    rw [r2.len]; exact q F H _ S Go.refl (rep_int.mpr rfl)) hg (by decide) (by decide) hs
theorem pv_lenM {p : Addr} (h : PV c e ρ M (.ref p) M1) (hm : MAt M1 p (.lst xs)) (hf : BltF c.K c.mg "len") (hg : GlC c "len" := by rfl) (hs : Pl1 e := by intro _; rfl) : PV c (.Call (.Name "len" p2) [e] [] pos) ρ M (.int xs.length) M1 :=
  pv_blt (r := fun xs H Q => ∃ p ys, xs = [.ref p] ∧ (SqL c.K H p ys ∨ SqT c.K H p ys) ∧ Q (.int ys.length) H) (pas1 h hs) hf (fun X hX => by rw [← hX.K]; exact call_len_seq) boot_len (fun F H vs S r Q q => by
    obtain ⟨v, rfl, r1⟩ := reps1 r
    have ep := rep_ref.mp r1
    subst ep
    obtain ⟨_, u, hu, vs, rfl, r2⟩ := hm.get S.ok
    refine ⟨p, vs, rfl, .inl (SqL.of hu), ?_⟩
    rw [r2.len]; exact q F H _ S Go.refl (rep_int.mpr rfl)) hg (by decide) (by decide) hs
/-! int, abs, min, max, str -/
theorem pv_int1 (h : PV c e ρ M (.int n) M1) (hf : BltF c.K c.mg "int") (hg : GlC c "int" := by rfl) (hs : Pl1 e := by intro _; rfl) : PV c (.Call (.Name "int" p2) [e] [] pos) ρ M (.int n) M1 :=
  pv_bty (pas1 h hs) hf (fun X hX => call_int1) boot_int (fun F H vs S r Q q => by
    obtain ⟨v, rfl, r1⟩ := reps1 r
    exact .inl ⟨n, by rw [rep_int.mp r1], q F H _ S Go.refl (rep_int.mpr rfl)⟩) hg (by decide) (by decide) hs
theorem pv_intB {k : Bool} (h : PV c e ρ M (.bl k) M1) (hf : BltF c.K c.mg "int") (hg : GlC c "int" := by rfl) (hs : Pl1 e := by intro _; rfl) : PV c (.Call (.Name "int" p2) [e] [] pos) ρ M (.int (if k then 1 else 0)) M1 :=
  pv_bty (pas1 h hs) hf (fun X hX => call_int1) boot_int (fun F H vs S r Q q => by
    obtain ⟨v, rfl, r1⟩ := reps1 r
    exact .inr ⟨k, by rw [rep_bl.mp r1], q F H _ S Go.refl (rep_int.mpr rfl)⟩) hg (by decide) (by decide) hs
theorem pv_strS (h : PV c e ρ M (.str s) M1) (hf : BltF c.K c.mg "str") (hg : GlC c "str" := by rfl) (hs : Pl1 e := by intro _; rfl) : PV c (.Call (.Name "str" p2) [e] [] pos) ρ M (.str s) M1 :=
  pv_bty (pas1 h hs) hf (fun X hX => SkE.call_str_str) boot_str (fun F H vs S r Q q => by
    obtain ⟨v, rfl, r1⟩ := reps1 r
    exact ⟨T s, by rw [rep_str.mp r1], q F H _ S Go.refl (rep_str.mpr rfl)⟩) hg (by decide) (by decide) hs
theorem pv_abs (h : PV c e ρ M (.int n) M1) (hf : BltF c.K c.mg "abs") (hg : GlC c "abs" := by rfl) (hs : Pl1 e := by intro _; rfl) : PV c (.Call (.Name "abs" p2) [e] [] pos) ρ M (.int (if n < 0 then -n else n)) M1 :=
  pv_blt (pas1 h hs) hf (fun X hX => call_abs) boot_abs (fun F H vs S r Q q => by
    obtain ⟨v, rfl, r1⟩ := reps1 r
    exact ⟨n, by rw [rep_int.mp r1], q F H _ S Go.refl (rep_int.mpr rfl)⟩) hg (by decide) (by decide) hs
theorem pv_min2 (h : PV c a ρ M (.int n) M1) (h2 : PV c b ρ M1 (.int m) M2) (hf : BltF c.K c.mg "min") (hg : GlC c "min" := by rfl) (hs : ∀ env : PySem.Env, starEach [a, b] env = (false, eval a env) :: starEach [b] env := by intro _; rfl) (hs2 : Pl1 b := by intro _; rfl) (hpl : ∀ env : PySem.Env, (backTo pos (starEach [b] env)).any (·.1) = false := by intro _; rfl) : PV c (.Call (.Name "min" p2) [a, b] [] pos) ρ M (.int (if m < n then m else n)) M2 :=
  pv_blt (pas2 h h2 hs hs2) hf (fun X hX => call_min2 hX.calm) boot_min (fun F H vs S r Q q => by
    obtain ⟨v, w, rfl, r1, r2⟩ := reps2 r
    exact ⟨n, m, by rw [rep_int.mp r1, rep_int.mp r2], q F H _ S Go.refl (rep_int.mpr rfl)⟩) hg (by decide) (by decide) hs hpl
/-! all, any; tuple, list -/
theorem pv_all {ks : List Bool} (h : PV c e ρ M (.lst (ks.map D.bl)) M1) (hf : BltF c.K c.mg "all") (hg : GlC c "all" := by rfl) (hs : Pl1 e := by intro _; rfl) : PV c (.Call (.Name "all" p2) [e] [] pos) ρ M (.bl (ks.all id)) M1 :=
  pv_blt (r := rAll c.K) (pas1 h hs) hf (fun X hX => by rw [← hX.K]; exact cr_all hX.calm) boot_all (fun F H vs S r Q q => by
    obtain ⟨v, rfl, r1⟩ := reps1 r
    obtain ⟨p, vs, rfl, hp, r2⟩ := rep_lstS r1
    exact ⟨p, ks, rfl, by rw [← reps_bls.mp r2]; exact sql_up S hp, q F H _ S Go.refl (rep_bl.mpr rfl)⟩) hg (by decide) (by decide) hs
theorem pv_any {ks : List Bool} (h : PV c e ρ M (.lst (ks.map D.bl)) M1) (hf : BltF c.K c.mg "any") (hg : GlC c "any" := by rfl) (hs : Pl1 e := by intro _; rfl) : PV c (.Call (.Name "any" p2) [e] [] pos) ρ M (.bl (ks.any id)) M1 :=
  pv_blt (r := rAny c.K) (pas1 h hs) hf (fun X hX => by rw [← hX.K]; exact cr_any hX.calm) boot_any (fun F H vs S r Q q => by
    obtain ⟨v, rfl, r1⟩ := reps1 r
    obtain ⟨p, vs, rfl, hp, r2⟩ := rep_lstS r1
    exact ⟨p, ks, rfl, by rw [← reps_bls.mp r2]; exact sql_up S hp, q F H _ S Go.refl (rep_bl.mpr rfl)⟩) hg (by decide) (by decide) hs
theorem pv_tupL (h : PV c e ρ M (.lst xs) M1) (hf : BltF c.K c.mg "tuple") (hg : GlC c "tuple" := by rfl) (hs : Pl1 e := by intro _; rfl) : PV c (.Call (.Name "tuple" p2) [e] [] pos) ρ M (.tup xs) M1 :=
  pv_bty (r := fun xs H Q => ∃ p ys, xs = [.ref p] ∧ ((SqL c.K H p ys ∧ ∀ l, H l = none → Q (.ref l) (upd H l (.tup ys))) ∨ (SqT c.K H p ys ∧ Q (.ref p) H))) (pas1 h hs) hf (fun X hX => by rw [← hX.K]; exact call_tuple_of) boot_tuple (fun F H vs S r Q q => by
    obtain ⟨v, rfl, r1⟩ := reps1 r
    obtain ⟨p, vs, rfl, hp, r2⟩ := rep_lstS r1
    refine ⟨p, vs, rfl, .inl ⟨sql_up S hp, fun l hl => ?_⟩⟩
    obtain ⟨S2, g2⟩ := S.new (o := .tup vs) hl
    exact q _ _ _ S2 g2 (rep_tup.mpr ⟨l, vs, rfl, SqT.of upd_same, r2.mono g2.ff⟩)) hg (by decide) (by decide) hs
theorem pv_tupT (h : PV c e ρ M (.tup xs) M1) (hf : BltF c.K c.mg "tuple") (hg : GlC c "tuple" := by rfl) (hs : Pl1 e := by intro _; rfl) : PV c (.Call (.Name "tuple" p2) [e] [] pos) ρ M (.tup xs) M1 :=
  pv_bty (r := fun xs H Q => ∃ p ys, xs = [.ref p] ∧ ((SqL c.K H p ys ∧ ∀ l, H l = none → Q (.ref l) (upd H l (.tup ys))) ∨ (SqT c.K H p ys ∧ Q (.ref p) H))) (pas1 h hs) hf (fun X hX => by rw [← hX.K]; exact call_tuple_of) boot_tuple (fun F H vs S r Q q => by
    obtain ⟨v, rfl, r1⟩ := reps1 r
    obtain ⟨p, vs, rfl, hp, r2⟩ := rep_tup.mp r1
    exact ⟨p, vs, rfl, .inr ⟨sqt_up S hp, q F H _ S Go.refl r1⟩⟩) hg (by decide) (by decide) hs
theorem listQ {K : PySem.W.Frag} {F H : Hp} {vs : List V} {Q : VK} (S : Sit K F M1 H) (r2 : Reps K F xs vs) (q : ∀ F' H' u, Sit K F' M1 H' → Go M1 F H M1 F' H' → Rep K F' (.lst xs) u → Q u H') : ∀ l, H l = none → Q (.ref l) (upd H l (.lst vs)) := fun l hl => by
  obtain ⟨S2, g2⟩ := S.new (o := .lst vs) hl
  exact q _ _ _ S2 g2 (rep_lst.mpr ⟨l, vs, rfl, upd_same, r2.mono g2.ff⟩)
theorem pv_listL (h : PV c e ρ M (.lst xs) M1) (hf : BltF c.K c.mg "list") (hg : GlC c "list" := by rfl) (hs : Pl1 e := by intro _; rfl) : PV c (.Call (.Name "list" p2) [e] [] pos) ρ M (.lst xs) M1 :=
  pv_bty (r := fun xs H Q => ∃ p ys, xs = [.ref p] ∧ (SqL c.K H p ys ∨ SqT c.K H p ys) ∧ ∀ l, H l = none → Q (.ref l) (upd H l (.lst ys))) (pas1 h hs) hf (fun X hX => by rw [← hX.K]; exact call_list_of) boot_list (fun F H vs S r Q q => by
    obtain ⟨v, rfl, r1⟩ := reps1 r
    obtain ⟨p, vs, rfl, hp, r2⟩ := rep_lstS r1
    exact ⟨p, vs, rfl, .inl (sql_up S hp), listQ S r2 q⟩) hg (by decide) (by decide) hs
theorem pv_listT (h : PV c e ρ M (.tup xs) M1) (hf : BltF c.K c.mg "list") (hg : GlC c "list" := by rfl) (hs : Pl1 e := by intro _; rfl) : PV c (.Call (.Name "list" p2) [e] [] pos) ρ M (.lst xs) M1 :=
  pv_bty (r := fun xs H Q => ∃ p ys, xs = [.ref p] ∧ (SqL c.K H p ys ∨ SqT c.K H p ys) ∧ ∀ l, H l = none → Q (.ref l) (upd H l (.lst ys))) (pas1 h hs) hf (fun X hX => by rw [← hX.K]; exact call_list_of) boot_list (fun F H vs S r Q q => by
    obtain ⟨v, rfl, r1⟩ := reps1 r
    obtain ⟨p, vs, rfl, hp, r2⟩ := rep_tup.mp r1
    exact ⟨p, vs, rfl, .inr (sqt_up S hp), listQ S r2 q⟩) hg (by decide) (by decide) hs
/-! isinstance -/
/-- a value of a built-in class, or of the class at C -/
def tyD : D → Option (Value × String)
  | .non => some (.type "NoneType", "NoneType") | .bl _ => some (.type "bool", "bool") | .int _ => some (.type "int", "int") | .str _ => some (.type "str", "str")
  | .lst _ => some (.type "list", "list") | .tup _ => some (.type "tuple", "tuple") | _ => none
end
end Dl

set_option Elab.async false
set_option linter.all false
set_option maxRecDepth 100000
set_option maxHeartbeats 2000000
/-! Dl: I: by what the parts come to. -/
namespace Dl
open PySem PySem.Spec L2
section
variable {c : Cfg} {ρ ρ' : Env} {M M1 M2 M' : Mem} {pos p2 apos cpos : Pos} {e a b o : Expr} {es : List Expr} {d x y z : D} {xs ys ds : List D} {n m : Int} {s t : List Nat} {nm : Str}
structure IxD (c : Cfg) (a b : Expr) (ρ : Env) (M : Mem) (x : D) (M1 : Mem) (y : D) (M2 : Mem) (z : D) (pos : Pos) : Prop where
  mk ::
  out : PV c a ρ M x M1 → PV c b ρ M1 y M2 → PV c (.Subscript a b pos) ρ M z M2
theorem pv_sub (ha : PV c a ρ M x M1) (hb : PV c b ρ M1 y M2) (h : IxD c a b ρ M x M1 y M2 z pos) : PV c (.Subscript a b pos) ρ M z M2 := h.out ha hb
abbrev PlX (b : Expr) : Prop := PlainIx b
theorem ix_S {k : Nat} (h0 : 0 ≤ n) (hz : s[n.toNat]? = some k) (hl : s.length ≤ sizeLine) (hs : PlX b := by exact fun _ _ => rfl) : IxD c a b ρ M (.str s) M1 (.int n) M2 (.str [k]) pos := .mk fun ha hb => pv_ixS ha hb h0 hl hz hs
theorem ix_S' (h0 : 0 ≤ n) (h1 : n < s.length) (hl : s.length ≤ sizeLine) (hs : PlX b := by exact fun _ _ => rfl) : IxD c a b ρ M (.str s) M1 (.int n) M2 (.str [s.getD n.toNat 0]) pos := .mk fun ha hb => pv_ixS ha hb h0 hl (by
  have : n.toNat < s.length := by omega
  simp [List.getD, this]) hs
theorem ix_I (h0 : 0 ≤ n) {l : List Int} (h1 : n < l.length) (hs : PlX b := by exact fun _ _ => rfl) : IxD c a b ρ M (.lst (l.map D.int)) M1 (.int n) M2 (.int (l.getD n.toNat 0)) pos := .mk fun ha hb => pv_ixL ha hb h0 (by
  have : n.toNat < l.length := by omega
  simp [List.getD, this]) hs
theorem ix_L (h0 : 0 ≤ n) (hz : xs[n.toNat]? = some z) (hs : PlX b := by exact fun _ _ => rfl) : IxD c a b ρ M (.lst xs) M1 (.int n) M2 z pos := .mk fun ha hb => pv_ixL ha hb h0 hz hs
theorem ix_T (h0 : 0 ≤ n) (hz : xs[n.toNat]? = some z) (hs : PlX b := by exact fun _ _ => rfl) : IxD c a b ρ M (.tup xs) M1 (.int n) M2 z pos := .mk fun ha hb => pv_ixT ha hb h0 hz hs
theorem ix_M {p : Addr} (hm : MAt M2 p (.lst xs)) (h0 : 0 ≤ n) (hz : xs[n.toNat]? = some z) (hs : PlX b := by exact fun _ _ => rfl) : IxD c a b ρ M (.ref p) M1 (.int n) M2 z pos := .mk fun ha hb => pv_ixM ha hb hm h0 hz hs
theorem ix_D {kvs : List (DK × D)} {j : DK} (hy : y = kD j) (hz : look kvs j = some z) (hs : NoSl b := by exact fun _ _ => rfl) : IxD c a b ρ M (.dct kvs) M1 y M2 z pos := .mk fun ha hb => pv_dget ha (hy ▸ hb) hz hs
theorem ix_DM {kvs : List (DK × D)} {j : DK} {p : Addr} (hm : MAt M2 p (.dK kvs)) (hy : y = kD j) (hz : look kvs j = some z) (hs : NoSl b := by exact fun _ _ => rfl) : IxD c a b ρ M (.ref p) M1 y M2 z pos := .mk fun ha hb => pv_dgetM ha (hy ▸ hb) hm hz hs
/-- a call by name of one value -/
structure B1 (c : Cfg) (nm : Str) (e : Expr) (ρ : Env) (M : Mem) (x : D) (M1 : Mem) (z : D) (M2 : Mem) (p2 pos : Pos) : Prop where
  mk ::
  out : PV c e ρ M x M1 → PV c (.Call (.Name nm p2) [e] [] pos) ρ M z M2
theorem pv_b1 (ha : PV c e ρ M x M1) (h : B1 c nm e ρ M x M1 z M2 p2 pos) : PV c (.Call (.Name nm p2) [e] [] pos) ρ M z M2 := h.out ha
theorem b_lenS (hz : s.length ≤ sizeLine) (hf : BltF c.K c.mg "len") (hg : GlC c "len" := by rfl) (hs : Pl1 e := by intro _; rfl) : B1 c "len" e ρ M (.str s) M1 (.int s.length) M1 p2 pos := .mk fun h => pv_lenS h hz hf hg hs
theorem b_lenL (hf : BltF c.K c.mg "len") (hg : GlC c "len" := by rfl) (hs : Pl1 e := by intro _; rfl) : B1 c "len" e ρ M (.lst xs) M1 (.int xs.length) M1 p2 pos := .mk fun h => pv_lenL h hf hg hs
theorem b_lenT (hf : BltF c.K c.mg "len") (hg : GlC c "len" := by rfl) (hs : Pl1 e := by intro _; rfl) : B1 c "len" e ρ M (.tup xs) M1 (.int xs.length) M1 p2 pos := .mk fun h => pv_lenT h hf hg hs
theorem b_lenM {p : Addr} (hm : MAt M1 p (.lst xs)) (hf : BltF c.K c.mg "len") (hg : GlC c "len" := by rfl) (hs : Pl1 e := by intro _; rfl) : B1 c "len" e ρ M (.ref p) M1 (.int xs.length) M1 p2 pos := .mk fun h => pv_lenM h hm hf hg hs
theorem b_int (hf : BltF c.K c.mg "int") (hg : GlC c "int" := by rfl) (hs : Pl1 e := by intro _; rfl) : B1 c "int" e ρ M (.int n) M1 (.int n) M1 p2 pos := .mk fun h => pv_int1 h hf hg hs
theorem b_intB {k : Bool} (hf : BltF c.K c.mg "int") (hg : GlC c "int" := by rfl) (hs : Pl1 e := by intro _; rfl) : B1 c "int" e ρ M (.bl k) M1 (.int (if k then 1 else 0)) M1 p2 pos := .mk fun h => pv_intB h hf hg hs
theorem b_str (hf : BltF c.K c.mg "str") (hg : GlC c "str" := by rfl) (hs : Pl1 e := by intro _; rfl) : B1 c "str" e ρ M (.str s) M1 (.str s) M1 p2 pos := .mk fun h => pv_strS h hf hg hs
theorem b_abs (hf : BltF c.K c.mg "abs") (hg : GlC c "abs" := by rfl) (hs : Pl1 e := by intro _; rfl) : B1 c "abs" e ρ M (.int n) M1 (.int (if n < 0 then -n else n)) M1 p2 pos := .mk fun h => pv_abs h hf hg hs
theorem b_all {ks : List Bool} (hx : xs = ks.map D.bl) (hf : BltF c.K c.mg "all") (hg : GlC c "all" := by rfl) (hs : Pl1 e := by intro _; rfl) : B1 c "all" e ρ M (.lst xs) M1 (.bl (ks.all id)) M1 p2 pos := .mk fun h => pv_all (hx ▸ h) hf hg hs
theorem b_tupL (hf : BltF c.K c.mg "tuple") (hg : GlC c "tuple" := by rfl) (hs : Pl1 e := by intro _; rfl) : B1 c "tuple" e ρ M (.lst xs) M1 (.tup xs) M1 p2 pos := .mk fun h => pv_tupL h hf hg hs
theorem b_tupT (hf : BltF c.K c.mg "tuple") (hg : GlC c "tuple" := by rfl) (hs : Pl1 e := by intro _; rfl) : B1 c "tuple" e ρ M (.tup xs) M1 (.tup xs) M1 p2 pos := .mk fun h => pv_tupT h hf hg hs
theorem b_listL (hf : BltF c.K c.mg "list") (hg : GlC c "list" := by rfl) (hs : Pl1 e := by intro _; rfl) : B1 c "list" e ρ M (.lst xs) M1 (.lst xs) M1 p2 pos := .mk fun h => pv_listL h hf hg hs
theorem b_listT (hf : BltF c.K c.mg "list") (hg : GlC c "list" := by rfl) (hs : Pl1 e := by intro _; rfl) : B1 c "list" e ρ M (.tup xs) M1 (.lst xs) M1 p2 pos := .mk fun h => pv_listT h hf hg hs
/-- e.f by what e comes to -/
structure FdD (c : Cfg) (e : Expr) (f : Str) (ρ : Env) (M : Mem) (x : D) (M1 : Mem) (z : D) (pos : Pos) : Prop where
  mk ::
  out : PV c e ρ M x M1 → PV c (.Attribute e f pos) ρ M z M1
theorem pv_att {f : Str} (ha : PV c e ρ M x M1) (h : FdD c e f ρ M x M1 z pos) : PV c (.Attribute e f pos) ρ M z M1 := h.out ha
theorem fd_o {C : Addr} {fs : List (Str × D)} {f : Str} (k : FlK c.K c.mg C f) (hl : fs.lookup f = some d) (hb : ∀ env : PySem.Env, attributeBase e f env (eval e env) = eval e env := by intro _; rfl) : FdD c e f ρ M (.obj C fs) M1 d pos := .mk fun h => pv_fld h k hl hb
theorem fd_M {C p : Addr} {fs : List (Str × D)} {f : Str} (hm : MAt M1 p (.ins C fs)) (k : FlK c.K c.mg C f) (hl : fs.lookup f = some d) (hb : ∀ env : PySem.Env, attributeBase e f env (eval e env) = eval e env := by intro _; rfl) : FdD c e f ρ M (.ref p) M1 d pos := .mk fun h => pv_fldM h hm k hl hb
/-- [lo:hi] by what comes -/
structure SlD (c : Cfg) (e : Expr) (lo hi : Option Expr) (ρ : Env) (M : Mem) (x : D) (M1 : Mem) (l : Option Int) (M2 : Mem) (u : Option Int) (M3 : Mem) (z : D) (p2 pos : Pos) : Prop where
  mk ::
  out : PV c e ρ M x M1 → PPart c lo ρ M1 l M2 → PPart c hi ρ M2 u M3 → PV c (.Subscript e (.Slice lo hi none p2) pos) ρ M z M3
theorem pv_slice {lo hi : Option Expr} {l u : Option Int} {M3 : Mem} (he : PV c e ρ M x M1) (hl : PPart c lo ρ M1 l M2) (hu : PPart c hi ρ M2 u M3) (h : SlD c e lo hi ρ M x M1 l M2 u M3 z p2 pos) : PV c (.Subscript e (.Slice lo hi none p2) pos) ρ M z M3 := h.out he hl hu
theorem sl_S {lo hi : Option Expr} {l u : Option Int} {M3 : Mem} (hz : s.length ≤ sizeLine) : SlD c e lo hi ρ M (.str s) M1 l M2 u M3 (.str (cut s l u)) p2 pos := .mk fun he hl hu => pv_slS he hl hu hz
theorem sl_L {lo hi : Option Expr} {l u : Option Int} {M3 : Mem} : SlD c e lo hi ρ M (.lst xs) M1 l M2 u M3 (.lst (cut xs l u)) p2 pos := .mk fun he hl hu => pv_slL he hl hu
structure RvD (c : Cfg) (e : Expr) (ρ : Env) (M : Mem) (x : D) (M1 : Mem) (z : D) (k : Nat) (p1 p2 p3 pos : Pos) : Prop where
  mk ::
  out : PV c e ρ M x M1 → PV c (.Subscript e (.Slice none none (some (.UnaryOp .USub (.Constant (.int 1) k p1) p2)) p3) pos) ρ M z M1
theorem pv_rev {k : Nat} {p1 p3 : Pos} (he : PV c e ρ M x M1) (h : RvD c e ρ M x M1 z k p1 p2 p3 pos) : PV c (.Subscript e (.Slice none none (some (.UnaryOp .USub (.Constant (.int 1) k p1) p2)) p3) pos) ρ M z M1 := h.out he
theorem rv_S {k : Nat} {p1 p3 : Pos} (hz : s.length ≤ sizeLine) : RvD c e ρ M (.str s) M1 (.str s.reverse) k p1 p2 p3 pos := .mk fun h => pv_revS h hz
theorem rv_L {k : Nat} {p1 p3 : Pos} : RvD c e ρ M (.lst xs) M1 (.lst xs.reverse) k p1 p2 p3 pos := .mk fun h => pv_revL h
end
end Dl

set_option Elab.async false
set_option linter.all false
set_option maxRecDepth 100000
set_option maxHeartbeats 2000000
/-! Dl: J: what a for goes over. -/
namespace Dl
open PySem PySem.Spec L2
open PyProof.Rows (boot_range)
section
variable {c : Cfg} {ρ ρ' : Env} {M M1 M2 M' : Mem} {pos p2 apos cpos : Pos} {e a b o tg : Expr} {es : List Expr} {d x y z : D} {xs ys ds : List D} {n m : Int} {s t : List Nat} {nm : Str}
theorem pin_str (h : PV c e ρ M (.str s) M1) : PIn c tg e ρ M (s.map fun k => .str [k]) M1 := .mk fun hE => by
  obtain ⟨t, a1, a2⟩ := h.out hE
  refine ⟨iStr t, fun X hX => pi_str (a1 X hX), fun F σ H S L R q => a2 F σ H S L _ fun F1 H1 v x M1' ⟨e1, e2⟩ S1 g1 p1 => ?_⟩
  subst e1 e2
  refine ⟨T s, rep_str.mp p1, q F1 H1 _ S1 g1 fun F2 H2 M2 hs S2 _ => ⟨fun i x hx => ?_, ?_⟩⟩
  · rw [List.getElem?_map] at hx
    obtain ⟨k, hk, rfl⟩ := Option.map_eq_some_iff.mp hx
    have hi : i < s.length := (List.getElem?_eq_some_iff.mp hk).1
    refine ⟨by show i < s.toArray.size; simpa using hi, fun v H3 ⟨e3, cc, hc, ev⟩ => ?_⟩
    subst e3
    have ec : cc = k := by
      have h1 : s.toArray[i]? = some cc := hc
      have h2 : s[i]? = some cc := by simpa using h1
      rw [hk] at h2
      exact (Option.some.inj h2).symm
    subst ec
    exact ⟨F2, rep_str.mpr ev, S2, Go.refl⟩
  · show s.toArray.size ≤ _
    simp
theorem walk_lst {K : PySem.W.Frag} {F : Hp} {p : Addr} {vs : List V} (hp : SqL K F p vs) (r : Reps K F xs vs) : WalkD K F (Itl K p) xs := fun F2 H2 M2 hs S2 _ => by
  have h2 : SqL K H2 p vs := S2.fh.seq (hs.seq hp)
  refine ⟨fun i x hx => ?_, ⟨vs, h2, by rw [r.len]; exact Nat.le_refl _⟩⟩
  obtain ⟨v, hv, rv⟩ := (r.mono hs).get hx
  refine ⟨⟨vs, v, h2, hv⟩, fun w H3 ⟨e3, hw⟩ => ?_⟩
  subst e3
  have := hw vs h2
  rw [hv] at this
  cases this
  exact ⟨F2, rv, S2, Go.refl⟩
theorem pin_lst (h : PV c e ρ M (.lst xs) M1) : PIn c tg e ρ M xs M1 := .mk fun hE => by
  obtain ⟨t, a1, a2⟩ := h.out hE
  refine ⟨iList c.K t, fun X hX => by rw [← hX.K]; exact pi_list (a1 X hX), fun F σ H S L R q => a2 F σ H S L _ fun F1 H1 v x M1' ⟨e1, e2⟩ S1 g1 p1 => ?_⟩
  subst e1 e2
  obtain ⟨p, vs, rfl, hp, r⟩ := rep_lstS p1
  exact ⟨p, rfl, ⟨vs, sql_up S1 hp⟩, q F1 H1 _ S1 g1 (walk_lst hp r)⟩
theorem pin_tup (h : PV c e ρ M (.tup xs) M1) : PIn c tg e ρ M xs M1 := .mk fun hE => by
  obtain ⟨t, a1, a2⟩ := h.out hE
  refine ⟨iTup c.K t, fun X hX => by rw [← hX.K]; exact pi_tup (a1 X hX), fun F σ H S L R q => a2 F σ H S L _ fun F1 H1 v x M1' ⟨e1, e2⟩ S1 g1 p1 => ?_⟩
  subst e1 e2
  obtain ⟨p, vs, rfl, hp, r⟩ := rep_tup.mp p1
  refine ⟨p, rfl, ⟨vs, sqt_up S1 hp⟩, q F1 H1 _ S1 g1 fun F2 H2 M2 hs S2 _ => ?_⟩
  have h2 : SqT c.K H2 p vs := sqt_mono S2.fh (sqt_mono hs hp)
  refine ⟨fun i x hx => ?_, ⟨vs, h2, by rw [r.len]; exact Nat.le_refl _⟩⟩
  obtain ⟨v, hv, rv⟩ := (r.mono hs).get hx
  refine ⟨⟨vs, v, h2, hv⟩, fun w H3 ⟨e3, hw⟩ => ?_⟩
  subst e3
  have := hw vs h2
  rw [hv] at this
  cases this
  exact ⟨F2, rv, S2, Go.refl⟩
theorem pin_range (h : PV c a ρ M (.int n) M1) (hf : BltF c.K c.mg "range") (h1 : -(2 ^ 62) ≤ n) (h2 : n < 2 ^ 62) (hg : GlC c "range" := by rfl) (hs : ∀ env : PySem.Env, starEach [a] env = [(false, eval a env)] := by intro _; rfl) : PIn c tg (.Call (.Name "range" p2) [a] [] pos) ρ M ((List.range n.toNat).map fun i => .int (i : Nat)) M1 := .mk fun hE => by
  obtain ⟨t, a1, a2⟩ := h.out hE
  refine ⟨iRng1 (tCons t tNil), fun X hX => pi_range1 (hg.gl hX) (by rw [hX.mg]; exact hf.no) (pa_cons (a1 X hX) pa_nil (by rw [hs]; rfl)) (hs _), fun F σ H S L R q => a2 F σ H S L _ fun F1 H1 v x M1' ⟨e1, e2⟩ S1 g1 p1 => ?_⟩
  subst e1 e2
  refine ⟨n, by rw [rep_int.mp p1], h1, h2, q F1 H1 _ S1 g1 fun F2 H2 M2 hs S2 _ => ⟨fun i x hx => ?_, ?_⟩⟩
  · rw [List.getElem?_map] at hx
    obtain ⟨k, hk, rfl⟩ := Option.map_eq_some_iff.mp hx
    have hi : i < n.toNat := by simpa using (List.getElem?_eq_some_iff.mp hk).1
    have ek : k = i := by
      rw [List.getElem?_range hi] at hk
      exact (Option.some.inj hk).symm
    subst ek
    refine ⟨hi, fun v H3 ⟨e3, ev⟩ => ?_⟩
    subst e3
    exact ⟨F2, rep_int.mpr (by rw [ev]; simp), S2, Go.refl⟩
  · show n.toNat ≤ _
    simp
end
end Dl

set_option Elab.async false
set_option linter.all false
set_option maxRecDepth 100000
set_option maxHeartbeats 2000000
/-! Dl: K: list comprehensions. -/
namespace Dl
open PySem PySem.Spec L2
/-- a comprehension's own context -/
@[reducible] def Cfg.blk (c : Cfg) (scope : Scope) : Cfg := { c with sc := relS scope c.sc, top := fun x => scope.names.lookup x == some .cell, W := noW }
theorem blk_has {c : Cfg} {X : Cx} (hX : c.Has X) (s : Shared) (H : Hp) (scope : Scope) (C : Addr) (cl : List (Str × Addr)) (fp : List Addr) : (c.blk scope).Has (X.blk s H scope (compEnvC scope cl C X.env) fp) where
  P := hX.P
  w := hX.w
  K := hX.K
  mg := hX.mg
  base := hX.base
  N := hX.N
  nd := hX.nd
  sc := by
    show relS scope X.env.scope = relS scope c.sc
    rw [hX.sc]
  calm := hX.calm
  room := hX.room
  fn := fun _ h => h
  tk := takes_no
  po := PassesOwn.never
/-- the comprehension's own names forgotten -/
inductive Wipe : Env → List (Str × Nat) → Env → Prop where
  | nil {ρ} : Wipe ρ [] ρ
  | cons {ρ x i own ρ1 f} : Wipe ρ own ρ1 → Put ρ1 x f → Wipe ρ ((x, i) :: own) (f none)
theorem Wipe.ok {c : Cfg} {ρ ρw : Env} {own : List (Str × Nat)} {K : PySem.W.Frag} {F : Hp} (h : Wipe ρ own ρw) (hE : EnvOk c ρ) (hN : ∀ p ∈ own, c.N[p.2]? = some p.1) : EnvOk c ρw ∧ ∀ σ, Slots K F ρ σ → Slots K F ρw (wipe σ (own.map (·.2))) := by
  induction h with
  | nil => exact ⟨hE, fun σ L => L⟩
  | @cons x i own ρ1 f _ hp ih =>
    obtain ⟨E1, h1⟩ := ih fun p hp => hN p (List.mem_cons_of_mem _ hp)
    obtain ⟨j, a1, a2, a3⟩ := hp.ix
    have e : i = j := nodup_ix hE.2 (hN (x, i) (List.mem_cons_self ..)) (by rw [← E1.1]; exact a1)
    subst e
    exact ⟨⟨(a2 _).trans E1.1, E1.2⟩, fun σ L => a3 K F _ none none (h1 σ L) fun d hd => (nomatch hd)⟩
/-- the tests of a clause -/
inductive PIf (c : Cfg) : List Expr → Env → Mem → Bool → Prop where
  | nil {ρ M} : PIf c [] ρ M true
  | one {e ρ M k} : PB c e ρ M k M → PIf c [e] ρ M k
section
variable {c : Cfg} {ρ ρw ρ' : Env} {M M1 M2 M' : Mem} {pos p2 spos py : Pos} {e a b o tg iter elt : Expr} {ifs : List Expr} {scope : Scope} {own : List (Str × Nat)} {f : D → Env → Env → Prop} {xs : List D} {α : Type} {l : List α} {inj g : α → D} {t : α → Bool} {P : Post} {sts : List Stmt}
def starTs (c : Cfg) (ifs : List Expr) : TT := fun σ H Q => ∃ t : TT, (∀ X, c.Has X → PTs X ifs t) ∧ t σ H Q
theorem starTs_ok : ∀ X, c.Has X → PTs X ifs (starTs c ifs) := fun X hX => ⟨fun pins s σ H D I ⟨t, a, b⟩ => (a X hX).run pins s σ H D I b⟩
theorem pif_ev {k : Bool} (h : PIf c ifs ρ M k) (hE : EnvOk c ρ) : EvT c.K (starTs c ifs) ρ M (is k M) := by
  cases h with
  | nil => exact fun F σ H S L Q q => ⟨tYes, fun X _ => pts_nil, q F H true M ⟨rfl, rfl⟩ S Go.refl⟩
  | one h =>
    obtain ⟨t, a1, a2⟩ := h.out hE
    exact fun F σ H S L Q q => ⟨t, fun X hX => pts_one (a1 X hX), a2 F σ H S L Q q⟩
/-- all that is asked of a comprehension over l -/
structure LcD (c : Cfg) (tg iter elt : Expr) (ifs : List Expr) (scope : Scope) (own : List (Str × Nat)) (ρ : Env) (M : Mem) (l : List α) (t : α → Bool) (g : α → D) (M1 : Mem) : Prop where
  mk ::
  out : ∃ (inj : α → D) (is : List Nat) (f : D → Env → Env → Prop) (ρw : Env), PInM c tg iter ρ M (l.map inj) M1 (fun N => N = M1) ∧ blkC c.N c.sc scope own = true ∧ PGn (c.blk scope) tg is f ∧ (∀ i ∈ is, i ∈ own.map (·.2)) ∧ Wipe ρ own ρw ∧ l.length ≤ sizeLine ∧
    ∀ a ∈ l, ∃ ρ', f (inj a) ρw ρ' ∧ PIf (c.blk scope) ifs ρ' M1 (t a) ∧ (t a = true → PV (c.blk scope) elt ρ' M1 (g a) M1)
theorem lc_own {N : List Str} {sc : Scope} (h : blkC N sc scope own = true) : ∀ p ∈ own, N[p.2]? = some p.1 := (blkOk_by h).ix
theorem lc_run (h : LcD c tg iter elt ifs scope own ρ M l t g M1) (hE : EnvOk c ρ) : ∃ (wi : TI) (gt : TG), (∀ X, c.Has X → PI X tg iter wi) ∧ (∀ X, c.Has X → BlkOk X.N X.env.scope scope own) ∧ (∀ X, (c.blk scope).Has X → PG X tg gt) ∧
    EvR c.K (tLc wi gt (starTs (c.blk scope) ifs) (starE (c.blk scope) elt) (own.map (·.2))) ρ M (is (.lst ((l.filter t).map g)) M1) := by
  obtain ⟨inj, is, f, ρw, hi, hb, ⟨gt, g1, g2⟩, his, hw, hz, hs⟩ := h.out
  obtain ⟨wi, w1, w2⟩ := hi.out hE
  refine ⟨wi, gt, w1, fun X hX => by rw [hX.N, hX.sc]; exact blkOk_by hb, g1, fun F0 σ H0 S0 L0 Q q => w2 F0 σ H0 S0 L0 _ fun F1 H1 J S1 go1 W => ?_⟩
  intro Dd hDd
  have hF1 : F1 Dd = none := S1.fh.free hDd
  -- so far
  refine ⟨fun i m H => m = l.length - i ∧ i ≤ l.length ∧ ∃ F vs, Sit c.K F M1 H ∧ F Dd = none ∧ Dd ∉ adr M1 ∧ H Dd = some (.lst vs) ∧ Reps c.K F (((l.take i).filter t).map g) vs ∧ Go M1 F1 H1 M1 F (fun b => if b = Dd then H1 Dd else H b), ⟨_, rfl, Nat.zero_le _, F1, [], ?_, hF1, fun z => (S1.ok.out z).2 hDd, upd_same, by simp [reps_nil], ?_⟩, ?_⟩
  · exact ⟨fun b u e => by rw [upd_ne (ne_of_none e hF1)]; exact S1.fh b u e, S1.ok.step (Same.refl _) (fun p hp => (S1.ok.out hp).1) fun p hp u e => by rw [upd_ne (ne_of_none e hDd)]; exact e⟩
  · have : (fun b => if b = Dd then H1 Dd else upd H1 Dd (HO.lst []) b) = H1 := by
      funext b
      by_cases hb : b = Dd
      · rw [if_pos hb, hb]
      · rw [if_neg hb, upd_ne hb]
    rw [this]; exact Go.refl
  · rintro i m H ⟨rfl, hi, F, vs, S, hF, hD, hH, r, go⟩
    obtain ⟨Wi, Ws⟩ := W F H M1 go.ff S rfl
    by_cases hlt : i < l.length
    · obtain ⟨jg, jy⟩ := Wi i (inj l[i]) (by simp [hlt])
      refine .inr ⟨jg, fun H' => ∃ F vs, Sit c.K F M1 H' ∧ F Dd = none ∧ Dd ∉ adr M1 ∧ H' Dd = some (.lst vs) ∧ Reps c.K F (((l.take (i + 1)).filter t).map g) vs ∧ Go M1 F1 H1 M1 F (fun b => if b = Dd then H1 Dd else H' b), fun H' x => ⟨l.length - (i + 1), by omega, rfl, hlt, x⟩, fun v H3 y => ?_⟩
      obtain ⟨F3, r3, S3, go3⟩ := jy v H3 y
      obtain ⟨ρ', hf', hif, hel⟩ := hs l[i] (List.getElem_mem hlt)
      obtain ⟨Ew, hwS⟩ := hw.ok (c := c) (K := c.K) (F := F3) hE (lc_own hb)
      obtain ⟨E', k⟩ := g2 _ ρw ρ' hf' Ew
      have L1 : Slots c.K F1 ρ σ := L0.mono go1.ff
      refine k F3 (wipe σ (own.map (·.2))) H3 M1 v S3 (hwS σ ((L1.mono go.ff).mono go3.ff)) r3 _ fun σ2 L2 wq => ?_
      refine ⟨?_, ?_⟩
      · rw [wq _ his, wipe_idem]
      refine pif_ev hif E' F3 σ2 H3 S3 L2 _ fun F4 H4 kk M4 ⟨e1, e2⟩ S4 go4 => ?_
      subst e1 e2
      have keepD : ∀ {Fa Ha Fb Hb : Hp}, Go M4 Fa Ha M4 Fb Hb → Ha Dd = some (.lst vs) → Fa Dd = none → Hb Dd = some (.lst vs) ∧ Fb Dd = none := fun g1 h1 h2 => ⟨g1.hh Dd _ hD h1, g1.nw Dd (by rw [h1]; simp) h2 hD⟩
      have lift : ∀ {Fa Ha Fb Hb : Hp}, Go M4 Fa Ha M4 Fb Hb → Ha Dd = some (.lst vs) → Fa Dd = none → Go M4 Fa (fun b => if b = Dd then H1 Dd else Ha b) M4 Fb (fun b => if b = Dd then H1 Dd else Hb b) := fun {Fa Ha Fb Hb} g1 h1 h2 => by
        refine ⟨g1.ff, fun b u hb e => ?_, fun b hb e hn => ?_, fun p hp => (g1.nm p hp).imp id fun z => ?_⟩
        · by_cases hbD : b = Dd
          · rw [if_pos hbD] at e ⊢; exact e
          · rw [if_neg hbD] at e ⊢; exact g1.hh b u hb e
        · by_cases hbD : b = Dd
          · rw [hbD]; exact (keepD g1 h1 h2).2
          · rw [if_neg hbD] at hb; exact g1.nw b hb e hn
        · by_cases hbD : p = Dd
          · rw [if_pos hbD]; exact hDd
          · rw [if_neg hbD]; exact z
      have k3 := keepD go3 hH hF
      have k4 := keepD go4 k3.1 k3.2
      have go' := (go.trans (lift go3 hH hF)).trans (lift go4 k3.1 k3.2)
      have r4 := (r.mono go3.ff).mono go4.ff
      have et : l.take (i + 1) = l.take i ++ [l[i]] := by rw [List.take_add_one]; simp [hlt]
      cases hk : t l[i] with
      | false =>
        rw [if_neg Bool.false_ne_true]
        refine ⟨F4, vs, S4, k4.2, hD, k4.1, ?_, go'⟩
        rw [et, List.filter_append, List.filter_cons, hk]
        simpa using r4
      | true =>
        rw [if_pos rfl]
        refine starE_ev (hel hk) E' F4 σ2 H4 S4 (L2.mono go4.ff) _ fun F5 H5 u d M5 ⟨e1, e2⟩ S5 go5 p5 => ?_
        subst e1 e2
        have k5 := keepD go5 k4.1 k4.2
        have hlen : vs.length < sizeLine := by
          rw [r.len, List.length_map]
          have h1 := List.length_filter_le t (l.take i)
          rw [List.length_take] at h1
          omega
        refine ⟨vs, k5.1, hlen, F5, vs ++ [u], ?_, k5.2, hD, upd_same, ?_, ?_⟩
        · exact ⟨fun b w e => by rw [upd_ne (ne_of_none e k5.2)]; exact S5.fh b w e, S5.ok.step (Same.refl _) (fun p hp => (S5.ok.out hp).1) fun p hp w e => by rw [upd_ne (ne_mem hp hD)]; exact e⟩
        · rw [et, List.filter_append, List.filter_cons, hk, List.map_append]
          exact (r4.mono go5.ff).snoc p5
        · have : (fun b => if b = Dd then H1 Dd else upd H5 Dd (HO.lst (vs ++ [u])) b) = fun b => if b = Dd then H1 Dd else H5 b := by
            funext b
            by_cases hb : b = Dd
            · rw [if_pos hb, if_pos hb]
            · rw [if_neg hb, if_neg hb, upd_ne hb]
          rw [this]
          exact go'.trans (lift go5 k4.1 k4.2)
    · have e : i = l.length := by omega
      subst e
      rw [List.take_length] at r
      refine .inl ⟨by rw [← List.length_map (f := inj)]; exact Ws, ?_⟩
      -- the new list is from now on as it is
      have goD : Go M1 F1 H1 ((Dd, .lst ((l.filter t).map g)) :: M1) F H := by
        refine ⟨go.ff, fun b u hb e => ?_, fun b hb e hn => go.nw b hb e hn, fun p hp => ?_⟩
        · have h1 := go.hh b u hb e
          rw [if_neg (ne_of_none e hDd)] at h1
          exact h1
        · rcases List.mem_cons.mp hp with z | z
          · rw [z]; exact .inr hDd
          · exact .inl z
      have SD : Sit c.K F ((Dd, .lst ((l.filter t).map g)) :: M1) H := ⟨S.fh, hF, ⟨_, hH, vs, rfl, r⟩, hD, S.ok⟩
      obtain ⟨u, hu, hr, sf, S5, g5⟩ := SD.freeze .here
      obtain ⟨vs', e1, r'⟩ := hr
      subst e1
      exact q _ _ _ _ _ ⟨rfl, rfl⟩ S5 (go1.trans (goD.trans g5)) (rep_lst.mpr ⟨Dd, vs', rfl, upd_same, r'.mono sf⟩)
theorem pv_lc (h : LcD c tg iter elt ifs scope own ρ M l t g M1) (hf : ∀ (env : PySem.Env) x, foldedSetIterable iter env x = pure x := by intro _ _; rfl) : PV c (.ListComp elt [⟨tg, iter, ifs, 0⟩] scope pos) ρ M (.lst ((l.filter t).map g)) M1 := .mk fun hE => by
  obtain ⟨wi, gt, a1, a2, a3, a4⟩ := lc_run h hE
  exact ⟨_, fun X hX => pe_lc (own := own) hX.calm hX.nd (a1 X hX) (a2 X hX) (fun s H C cl fp => a3 _ (blk_has hX s H scope C cl fp)) (fun s H C cl fp => starTs_ok _ (blk_has hX s H scope C cl fp)) (fun s H C cl fp => starE_ok _ (blk_has hX s H scope C cl fp)) (hf _), a4⟩
/-- y = [..] -/
theorem ss_setLc {y : Str} {fp : Option D → Env} (hp : Put ρ y fp) (h : LcD c tg iter elt ifs scope own ρ M l t g M1) (q : PSsn c sts (fp (some (.lst ((l.filter t).map g)))) M1 P) (hy : c.sc.names.lookup y = some .local := by rfl) (hk : c.sc.kind = .function := by rfl) (hl : (py.line == pos.line) = true := by rfl)
    (ho : (scope.names.any fun (n, k) => n == y && (k == .local || k == .cell)) = false := by decide +kernel) (hf : ∀ (env : PySem.Env) x, foldedSetIterable iter env x = pure x := by intro _ _; rfl) : PSsn c (.Assign [.Name y py] (.ListComp elt [⟨tg, iter, ifs, 0⟩] scope pos) spos :: sts) ρ M P :=
  pss_cons' (.mk fun hE => by
    obtain ⟨wi, gt, a1, a2, a3, a4⟩ := lc_run h hE
    obtain ⟨i, hi, _⟩ := pg_nm (pos := py) hp (.inl hy) hE
    refine ⟨_, fun X hX => ps_setLc (i := i) (own := own) hX.calm hX.nd (by rw [hX.N]; exact hi) (by rw [hX.sc]; exact hy) (sw_true (by rw [hX.sc]; exact hk) (by rw [hX.sc]; exact hy) hl ho) (a1 X hX) (a2 X hX) (fun s H C cl fp => a3 _ (blk_has hX s H scope C cl fp)) (fun s H C cl fp => starTs_ok _ (blk_has hX s H scope C cl fp)) (fun s H C cl fp => starE_ok _ (blk_has hX s H scope C cl fp)) (hf _), fun F σ H S L D f' => a4 F σ H S L _ fun F' H' v d M' ⟨e1, e2⟩ S' g' r => ?_⟩
    subst e1 e2
    obtain ⟨h1, h2⟩ := put_ok hp hE hi (L.mono g'.ff) r
    exact f'.nx F' H' _ _ _ q h1 S' h2 g')
end
end Dl

set_option Elab.async false
set_option linter.all false
set_option maxRecDepth 100000
set_option maxHeartbeats 2000000
/-! Dl: L: methods of built-in types, stores, what changes. -/
namespace Dl
open PySem PySem.Spec L2
section
variable {c : Cfg} {ρ ρ' : Env} {M M1 M2 M3 M4 M' : Mem} {pos p2 apos cpos : Pos} {e e1 e2 a b o : Expr} {es : List Expr} {d x y z : D} {xs ys ds : List D} {n m : Int} {s t : List Nat} {nm : Str} {P : Post} {sts : List Stmt} {p : Addr} {kvs : List (DK × D)} {j : DK}
/-- from now on as it is -/
def frz : MO → D
  | .lst xs => .lst xs
  | .dK kvs => .dct kvs
  | .dT kvs => .dcT kvs
  | .ins C fs => .obj C fs
  | .dKL kvs _ => .dct kvs
  | .dTL kvs _ => .dcT kvs
def isD : MO → Bool
  | .dK _ => true
  | .dT _ => true
  | _ => false
theorem frz_rep {K : PySem.W.Frag} {F : Hp} {u : HO} : ∀ {o : MO}, isD o = false → RepM K F o u → F p = some u → Rep K F (frz o) (.ref p)
  | .lst _, _, ⟨vs, e, r⟩, h => by subst e; exact rep_lst.mpr ⟨p, vs, rfl, h, r⟩
  | .dK _, q, _, _ => by cases q
  | .dT _, q, _, _ => by cases q
  | .ins _ _, _, ⟨dx, vs, e, r⟩, h => by subst e; exact rep_obj.mpr ⟨p, dx, vs, rfl, h, r⟩
  | .dKL _ _, _, ⟨vs, w, e, e2, r⟩, h => by subst e e2; exact rep_dct.mpr ⟨p, vs, rfl, ⟨w, h⟩, r⟩
  | .dTL _ _, _, ⟨vs, w, e, e2, r⟩, h => by subst e e2; exact rep_dcT.mpr ⟨p, vs, rfl, ⟨w, h⟩, r⟩
theorem frz_repD {K : PySem.W.Frag} {F : Hp} {u : HO} {w : Obj} : ∀ {o : MO}, isD o = true → RepM K F o u → F p = some (.frz w u) → Rep K F (frz o) (.ref p)
  | .lst _, q, _, _ => by cases q
  | .dK _, _, ⟨vs, e, r⟩, h => by subst e; exact rep_dct.mpr ⟨p, vs, rfl, ⟨w, h⟩, r⟩
  | .dT _, _, ⟨vs, e, r⟩, h => by subst e; exact rep_dcT.mpr ⟨p, vs, rfl, ⟨w, h⟩, r⟩
  | .ins _ _, q, _, _ => by cases q
  | .dKL _ _, q, _, _ => by cases q
  | .dTL _ _, q, _, _ => by cases q
theorem isD_mut {K : PySem.W.Frag} {F : Hp} {u : HO} : ∀ {o : MO}, isD o = true → RepM K F o u → Mut (some u)
  | .lst _, q, _ => by cases q
  | .dK _, _, ⟨vs, e, r⟩ => by subst e; exact True.intro
  | .dT _, _, ⟨vs, e, r⟩ => by subst e; exact True.intro
  | .ins _ _, q, _ => by cases q
  | .dKL _ _, q, _ => by cases q
  | .dTL _ _, q, _ => by cases q
/-- the dict is locked for good -/
def tFrz (t : TE) : TE := fun σ H Q => t σ H fun v H' => ∃ d u, H' d = some u ∧ Mut (some u) ∧ ∀ od, Q v (upd H' d (.frz od u))
theorem pe_frz {X : Cx} {t : TE} (h : PE X e t) : PE X e (tFrz t) := ⟨fun pins s σ H Q I hw => by
  refine thn (h.run pins s σ H _ I hw) fun u s1 ⟨x, H1, I1, r, d, w, hd, mu, q⟩ => ?_
  obtain ⟨od, I2⟩ := I1.lock hd mu
  exact ⟨x, _, I2, r, q od⟩⟩
theorem pv_frz {o : MO} (h : PV c e ρ M (.ref p) M1) (hc : MCut M1 p o M2) : PV c e ρ M (frz o) M2 := .mk fun hE => by
  obtain ⟨t, a1, a2⟩ := h.out hE
  cases hi : isD o with
  | false =>
    refine ⟨t, a1, fun F σ H S L Q q => a2 F σ H S L _ fun F1 H1 v x M1' ⟨e1, e2⟩ S1 g1 p1 => ?_⟩
    subst e1 e2
    have ep := rep_ref.mp p1
    subst ep
    obtain ⟨u, hu, r, sf, S2, g2⟩ := S1.freeze hc
    exact q _ _ _ _ _ ⟨rfl, rfl⟩ S2 (g1.trans g2) (frz_rep hi (r.mono sf) upd_same)
  | true =>
    refine ⟨tFrz t, fun X hX => pe_frz (a1 X hX), fun F σ H S L Q q => a2 F σ H S L _ fun F1 H1 v x M1' ⟨e1, e2⟩ S1 g1 p1 => ?_⟩
    subst e1 e2
    have ep := rep_ref.mp p1
    subst ep
    obtain ⟨_, u, hu, r⟩ := hc.at_.get S1.ok
    refine ⟨p, u, hu, isD_mut hi r, fun od => ?_⟩
    obtain ⟨sf, S2, g2⟩ := S1.freezeL hc (.frz od u)
    exact q _ _ _ _ _ ⟨rfl, rfl⟩ S2 (g1.trans g2) (frz_repD hi (r.mono sf) upd_same)
theorem pv_frzL (h : PV c e ρ M (.ref p) M1) (hc : MCut M1 p (.lst xs) M2) : PV c e ρ M (.lst xs) M2 := pv_frz h hc
theorem pv_frzD (h : PV c e ρ M (.ref p) M1) (hc : MCut M1 p (.dK kvs) M2) : PV c e ρ M (.dct kvs) M2 := pv_frz h hc
/-! lists that change -/
theorem ty_list {K : PySem.W.Frag} {F H : Hp} (S : Sit K F M H) (hm : MAt M p (.lst xs)) : tyV K "list" (.ref p) H := by
  obtain ⟨_, u, hu, vs, rfl, r⟩ := hm.get S.ok
  exact .inl ⟨rfl, vs, SqL.of hu⟩
theorem pv_append (ho : PV c o ρ M (.ref p) M1) (h0 : MAt M1 p (.lst ys)) (ha : PV c e ρ M1 d M2) (hm : MAt M2 p (.lst xs)) (hp : MPut M2 p (.lst (xs ++ [d])) M3) (hl : xs.length < sizeLine)
    (hbase : ∀ env : PySem.Env, attributeBase o "append" env (eval o env) = eval o env := by intro _; rfl)
    (hfew : ∀ env : PySem.Env, ((backTo cpos (starEach [e] env)).all (fun x => !x.1) && (backToKw cpos (keywordEach [] env)).all (fun x => x.1.isSome) && decide (([e] : List Expr).length + ([] : List Keyword).length + (if ([] : List Keyword).isEmpty then 0 else 1) < 30)) = true := by intro _; rfl)
    (hline : (apos.endLine == cpos.line) = true := by rfl) (hs : Pl1 e := by intro _; rfl) (hpl : ∀ env : PySem.Env, (backTo cpos (starEach [] env)).any (·.1) = false := by intro _; rfl) : PV c (.Call (.Attribute o "append" apos) [e] [] cpos) ρ M .non M3 := .mk fun hE => by
  obtain ⟨to, o1, o2⟩ := ho.out hE
  obtain ⟨te, a1, a2⟩ := ha.out hE
  refine ⟨tBM c.K "list" rAppend to (tCons te tNil), fun X hX => by rw [← hX.K]; exact pe_bm PySem.F.plainAttrs_list PySem.F.slot_list_append PySem.F.type_list_append mt_append (o1 X hX) (pa_cons (a1 X hX) pa_nil (hs _)) (hbase _) (hfew _) hline (hs _) (hpl _),
    fun F σ H S L Q q => o2 F σ H S L _ fun F1 H1 v x M1' ⟨e1, e2⟩ S1 g1 p1 => ?_⟩
  subst e1 e2
  have ep := rep_ref.mp p1
  subst ep
  refine ⟨ty_list S1 h0, a2 F1 σ H1 S1 (L.mono g1.ff) _ fun F2 H2 w y M2' ⟨e1, e2⟩ S2 g2 p2 => ?_⟩
  subst e1 e2
  obtain ⟨_, u, hu, vs, rfl, r⟩ := hm.get S2.ok
  obtain ⟨S3, g3⟩ := S2.put hp (u := .lst (vs ++ [w])) ⟨_, rfl, r.snoc p2⟩
  exact ⟨p, vs, w, rfl, rfl, hu, by rw [r.len]; exact hl, q _ _ _ _ _ ⟨rfl, rfl⟩ S3 (g1.trans (g2.trans g3)) (rep_non.mpr rfl)⟩
/-! dicts that change -/
/-- d[k] = v -/
theorem ss_dput (hv : PV c e ρ M d M1) (ho : PV c o ρ M1 (.ref p) M2) (hk : PV c a ρ M2 y M3) (hy : y = kD j) (hm : MAt M3 p (.dK kvs)) (hp : MPut M3 p (.dK (put kvs j d)) M4) (hl : kvs.length < sizeLine) (q : PSsn c sts ρ M4 P)
    (hs : ∀ env : PySem.Env, swapsWith e (some (.Subscript o a p2)) pos.line env = pure false := by intro _; rfl) : PSsn c (.Assign [.Subscript o a p2] e pos :: sts) ρ M P := pss_cons' (.mk fun hE => by
  subst hy
  obtain ⟨tv, v1, v2⟩ := hv.out hE
  obtain ⟨to, o1, o2⟩ := ho.out hE
  obtain ⟨tk, k1, k2⟩ := hk.out hE
  refine ⟨sDPut to tk tv, fun X hX => ps_dput (hu_of hX.room) (o1 X hX) (k1 X hX) (v1 X hX) (hs _), fun F σ H S L D f => v2 F σ H S L _ fun F1 H1 v x M1' ⟨e1, e2⟩ S1 g1 p1 => ?_⟩
  subst e1 e2
  refine o2 F1 σ H1 S1 (L.mono g1.ff) _ fun F2 H2 w x M2' ⟨e1, e2⟩ S2 g2 p2 => ?_
  subst e1 e2
  refine k2 F2 σ H2 S2 (L.mono (g1.ff.trans g2.ff)) _ fun F3 H3 u x M3' ⟨e1, e2⟩ S3 g3 p3 => ?_
  subst e1 e2
  have ep := rep_ref.mp p2
  subst ep
  obtain ⟨_, uu, hu, ws, rfl, r⟩ := hm.get S3.ok
  have r1 := (p1.mono g2.ff).mono g3.ff
  obtain ⟨S4, g4⟩ := S3.put hp (u := .dK (putK ws j.k v)) ⟨_, rfl, r.put r1⟩
  refine ⟨p, upd H3 p (.dK (putK ws j.k v)), rfl, .inl ⟨ws, j.k, hu, rep_kD p3, by rw [r.len]; exact hl, rfl⟩, ?_⟩
  exact f.nx _ _ ρ σ M4 q hE S4 (L.mono (g1.ff.trans (g2.ff.trans (g3.ff.trans g4.ff)))) (g1.trans (g2.trans (g3.trans g4))))
theorem rep_key {K : PySem.W.Frag} {F H : Hp} {w : V} (r : Rep K F (kD j) w) : w = kV j.k := rep_kD r
/-- what a dict holds, where it may change or not -/
theorem dctAt_d {K : PySem.W.Frag} : DctAt K (.dct kvs) M kvs := dct_at
theorem dctAt_m {K : PySem.W.Frag} (h : MAt M p (.dK kvs)) : DctAt K (.ref p) M kvs := dctM_at h
/-- d.get(k, x) -/
theorem pv_dget2 (ho : PV c o ρ M x M1) (h0 : ∃ kvs0, DctAt c.K x M1 kvs0) (ha : PV c a ρ M1 y M2) (hy : y = kD j) (hb : PV c b ρ M2 z M3) (hd : DctAt c.K x M3 kvs) (hq : (look kvs j).getD z = d)
    (h1 : ∀ env : PySem.Env, attributeBase o "get" env (eval o env) = eval o env := by intro _; rfl)
    (h2 : ∀ env : PySem.Env, ((backTo cpos (starEach [a, b] env)).all (fun x => !x.1) && (backToKw cpos (keywordEach [] env)).all (fun x => x.1.isSome) && decide (([a, b] : List Expr).length + ([] : List Keyword).length + (if ([] : List Keyword).isEmpty then 0 else 1) < 30)) = true := by intro _; rfl)
    (h3 : (apos.endLine == cpos.line) = true := by rfl) (h4 : ∀ env : PySem.Env, backTo cpos (starEach [a, b] env) = [(false, eval a env), (false, eval b env)] := by intro _; rfl) : PV c (.Call (.Attribute o "get" apos) [a, b] [] cpos) ρ M d M3 := .mk fun hE => by
  subst hy hq
  obtain ⟨to, o1, o2⟩ := ho.out hE
  obtain ⟨ta, a1, a2⟩ := ha.out hE
  obtain ⟨tb, b1, b2⟩ := hb.out hE
  obtain ⟨kvs0, h0⟩ := h0
  refine ⟨tDGet2 to ta tb, fun X hX => pe_dget2 (hu_of hX.room) (o1 X hX) (a1 X hX) (b1 X hX) ⟨h1 _, h2 _, h3, h4 _⟩, fun F σ H S L Q q => o2 F σ H S L _ fun F1 H1 v x M1' ⟨e1, e2⟩ S1 g1 p1 => ?_⟩
  subst e1 e2
  obtain ⟨p, ws0, rfl, hp0, _⟩ := h0 F1 H1 v S1 p1
  refine ⟨p, rfl, .inl ⟨ws0, hp0⟩, a2 F1 σ H1 S1 (L.mono g1.ff) _ fun F2 H2 w y M2' ⟨e1, e2⟩ S2 g2 p2 => ?_⟩
  subst e1 e2
  refine b2 F2 σ H2 S2 (L.mono (g1.ff.trans g2.ff)) _ fun F3 H3 u y M3' ⟨e1, e2⟩ S3 g3 p3 => ?_
  subst e1 e2
  obtain ⟨p', ws, ep, hp, r⟩ := hd F3 H3 _ S3 ((p1.mono g2.ff).mono g3.ff)
  cases ep
  refine ⟨valV ws j.k, .inl ⟨ws, j.k, hp, rep_kD (p2.mono g3.ff), rfl⟩, ?_⟩
  cases e : look kvs j with
  | none => rw [r.look_none e]; exact q F3 H3 u y _ ⟨by rw [e]; rfl, rfl⟩ S3 (g1.trans (g2.trans g3)) p3
  | some x' =>
    obtain ⟨v', hv', rv'⟩ := r.look_some e
    rw [hv']
    exact q F3 H3 v' x' _ ⟨by rw [e]; rfl, rfl⟩ S3 (g1.trans (g2.trans g3)) rv'
/-- d.setdefault(k, x): the memory behind it -/
def setd (kvs : List (DK × D)) (j : DK) (z : D) : List (DK × D) := if (look kvs j).isSome then kvs else put kvs j z
theorem MPut.self {o : MO} (h : MAt M p o) : ∃ M', MPut M p o M' ∧ M' = M := by
  induction h with
  | here => exact ⟨_, .here, rfl⟩
  | there _ ih => obtain ⟨M', a, e⟩ := ih; subst e; exact ⟨_, .there a, rfl⟩
theorem MPut.inj {o : MO} {A : Mem} (h : MPut M p o A) : (Dl.adr M).Nodup → ∀ B, MPut M p o B → A = B := by
  induction h with
  | here =>
    intro hn B k
    cases k with
    | here => rfl
    | there k => exact absurd k.mem (List.nodup_cons.mp hn).1
  | there h ih =>
    intro hn B k
    cases k with
    | here => exact absurd h.mem (List.nodup_cons.mp hn).1
    | there k => rw [ih (List.nodup_cons.mp hn).2 _ k]
theorem MOk.nodup {K : PySem.W.Frag} {F H : Hp} (h : MOk K F H M) : (Dl.adr M).Nodup := by
  induction M with
  | nil => exact List.nodup_nil
  | cons x m ih => exact List.nodup_cons.mpr ⟨h.2.2.1, ih h.2.2.2⟩
theorem pv_setd {ds0 : List (DK × D)} (ho : PV c o ρ M (.ref p) M1) (h0 : MAt M1 p (.dK ds0)) (ha : PV c a ρ M1 y M2) (hy : y = kD j) (hb : PV c b ρ M2 z M3) (hm : MAt M3 p (.dK kvs)) (hp : MPut M3 p (.dK (setd kvs j z)) M4) (hl : kvs.length < sizeLine) (hq : (look kvs j).getD z = d)
    (h1 : ∀ env : PySem.Env, attributeBase o "setdefault" env (eval o env) = eval o env := by intro _; rfl)
    (h2 : ∀ env : PySem.Env, ((backTo cpos (starEach [a, b] env)).all (fun x => !x.1) && (backToKw cpos (keywordEach [] env)).all (fun x => x.1.isSome) && decide (([a, b] : List Expr).length + ([] : List Keyword).length + (if ([] : List Keyword).isEmpty then 0 else 1) < 30)) = true := by intro _; rfl)
    (h3 : (apos.endLine == cpos.line) = true := by rfl) (h4 : ∀ env : PySem.Env, backTo cpos (starEach [a, b] env) = [(false, eval a env), (false, eval b env)] := by intro _; rfl) : PV c (.Call (.Attribute o "setdefault" apos) [a, b] [] cpos) ρ M d M4 := .mk fun hE => by
  subst hy hq
  obtain ⟨to, o1, o2⟩ := ho.out hE
  obtain ⟨ta, a1, a2⟩ := ha.out hE
  obtain ⟨tb, b1, b2⟩ := hb.out hE
  refine ⟨tDSetd to ta tb, fun X hX => pe_dsetd (o1 X hX) (a1 X hX) (b1 X hX) ⟨h1 _, h2 _, h3, h4 _⟩, fun F σ H S L Q q => o2 F σ H S L _ fun F1 H1 v x M1' ⟨e1, e2⟩ S1 g1 p1 => ?_⟩
  subst e1 e2
  have ep := rep_ref.mp p1
  subst ep
  obtain ⟨_, u0, hu0, ws0, rfl, _⟩ := h0.get S1.ok
  refine ⟨p, rfl, .inl ⟨ws0, .inl hu0⟩, a2 F1 σ H1 S1 (L.mono g1.ff) _ fun F2 H2 w y M2' ⟨e1, e2⟩ S2 g2 p2 => ?_⟩
  subst e1 e2
  refine b2 F2 σ H2 S2 (L.mono (g1.ff.trans g2.ff)) _ fun F3 H3 u y M3' ⟨e1, e2⟩ S3 g3 p3 => ?_
  subst e1 e2
  obtain ⟨_, uu, hu, ws, rfl, r⟩ := hm.get S3.ok
  refine ⟨ws, j.k, hu, rep_kD (p2.mono g3.ff), by rw [r.len]; exact hl, fun v' hv' => ?_, fun hn => ?_⟩
  · cases e : look kvs j with
    | none => rw [r.look_none e] at hv'; cases hv'
    | some x' =>
      obtain ⟨v2, hv2, rv2⟩ := r.look_some e
      rw [hv2] at hv'
      cases hv'
      have es : setd kvs j y = kvs := by unfold setd; rw [e]; rfl
      rw [es] at hp
      obtain ⟨M'', hp', e'⟩ := MPut.self hm
      have := hp.inj S3.ok.nodup _ hp'
      rw [e'] at this
      subst this
      exact q F3 H3 v' _ _ ⟨by rw [e]; rfl, rfl⟩ S3 (g1.trans (g2.trans g3)) rv2
  · cases e : look kvs j with
    | some x' =>
      obtain ⟨v2, hv2, _⟩ := r.look_some e
      rw [hv2] at hn; cases hn
    | none =>
      have es : setd kvs j y = put kvs j y := by unfold setd; rw [e]; rfl
      rw [es] at hp
      obtain ⟨S4, g4⟩ := S3.put hp (u := .dK (putK ws j.k u)) ⟨_, rfl, r.put p3⟩
      exact q _ _ u _ _ ⟨by rw [e]; rfl, rfl⟩ S4 (g1.trans (g2.trans (g3.trans g4))) (p3.mono g4.ff)
/-! texts -/
theorem pv_join {ls : List (List Nat)} (ho : PV c o ρ M (.str s) M1) (ha : PV c e ρ M1 (.lst xs) M2) (hx : xs = ls.map D.str) (hl : (ls.map List.length).sum + ls.length * s.length ≤ 16777216) (hq : (Txt.join (T s) (ls.map T)) = T t)
    (hs : ∀ env : PySem.Env, starEach [e] env = [(false, eval e env)] := by intro _; rfl) (hbase : ∀ env : PySem.Env, attributeBase o "join" env (eval o env) = eval o env := by intro _; rfl) (hline : (apos.endLine == cpos.line) = true := by rfl) : PV c (.Call (.Attribute o "join" apos) [e] [] cpos) ρ M (.str t) M2 := .mk fun hE => by
  subst hx
  obtain ⟨to, o1, o2⟩ := ho.out hE
  obtain ⟨te, a1, a2⟩ := ha.out hE
  refine ⟨_, fun X hX => by have h := pe_join (o1 X hX) (a1 X hX) (hs X.env) (hbase X.env) hline; rw [hX.K] at h; exact h, fun F σ H S L Q q => o2 F σ H S L _ fun F1 H1 v x M1' ⟨e1, e2⟩ S1 g1 p1 => ?_⟩
  subst e1 e2
  refine ⟨⟨T s, rep_str.mp p1⟩, a2 F1 σ H1 S1 (L.mono g1.ff) _ fun F2 H2 w y M2' ⟨e1, e2⟩ S2 g2 p2 => ?_⟩
  subst e1 e2
  obtain ⟨p, vs, rfl, hp, r⟩ := rep_lstS p2
  refine ⟨T s, p, ls.map T, rep_str.mp p1, rfl, .inl (by rw [← reps_strs.mp r]; exact sql_up S2 hp), ?_, ?_⟩
  · rw [List.map_map, List.length_map, T_len]
    have : (fun x => x.length) ∘ T = List.length := by funext l; exact T_len l
    rw [show (Str.length ∘ T) = List.length from this]; exact hl
  · rw [hq]; exact q F2 H2 _ _ _ ⟨rfl, rfl⟩ S2 (g1.trans g2) (rep_str.mpr rfl)
theorem pv_find (ho : PV c o ρ M (.str s) M1) (ha : PV c e ρ M1 (.str t) M2) (hq : Txt.find (T s) (T t) = n)
    (hs : ∀ env : PySem.Env, starEach [e] env = [(false, eval e env)] := by intro _; rfl) (hbase : ∀ env : PySem.Env, attributeBase o "find" env (eval o env) = eval o env := by intro _; rfl) (hline : (apos.endLine == cpos.line) = true := by rfl) : PV c (.Call (.Attribute o "find" apos) [e] [] cpos) ρ M (.int n) M2 := .mk fun hE => by
  obtain ⟨to, o1, o2⟩ := ho.out hE
  obtain ⟨te, a1, a2⟩ := ha.out hE
  refine ⟨_, fun X hX => pe_m1 PySem.F.slot_str_find PySem.F.type_str_find mt_find (o1 X hX) (a1 X hX) (hs X.env) (hbase X.env) hline, fun F σ H S L Q q => o2 F σ H S L _ fun F1 H1 v x M1' ⟨e1, e2⟩ S1 g1 p1 => ?_⟩
  subst e1 e2
  refine ⟨⟨T s, rep_str.mp p1⟩, a2 F1 σ H1 S1 (L.mono g1.ff) _ fun F2 H2 w y M2' ⟨e1, e2⟩ S2 g2 p2 => ?_⟩
  subst e1 e2
  exact ⟨T s, T t, rep_str.mp p1, by rw [rep_str.mp p2], by rw [hq]; exact q F2 H2 _ _ _ ⟨rfl, rfl⟩ S2 (g1.trans g2) (rep_int.mpr rfl)⟩
/-! x += n -/
theorem ss_augI {f : Option D → Env} (h0 : At ρ nm (.int n)) (hp : Put ρ nm f) (h : PV c e ρ M (.int m) M1) (q : PSsn c sts (f (some (.int (n + m)))) M1 P) (hl : LocC c nm := by first | exact Or.inl rfl | exact Or.inr ⟨rfl, rfl⟩) : PSsn c (.AugAssign (.Name nm p2) .Add e pos :: sts) ρ M P := pss_cons' (.mk fun hE => by
  obtain ⟨t, a, b⟩ := h.out hE
  obtain ⟨i, hi, hg⟩ := pg_nm (pos := p2) hp hl hE
  refine ⟨tAug i t (ipI fun i j => i + j), fun X hX => ?_, fun F σ H S L D f' => ?_⟩
  · refine ps_aug hX.nd (by rw [hX.N]; exact hi) ?_ (a X hX) ip_add ?_
    · rcases hl with hl | ⟨_, hl⟩
      · exact .inl (by rw [hX.sc]; exact hl)
      · exact .inr (by rw [hX.sc]; exact hl)
    · rcases hl with hl | ⟨ht, _⟩
      · exact .inr (by rw [hX.sc]; exact hl)
      · exact .inl (hX.fn _ ht)
  · obtain ⟨i', h1, h2⟩ := h0.ix
    have e : i' = i := nodup_ix hE.2 (by rw [← hE.1]; exact h1) hi
    subst e
    obtain ⟨v, hv, rv⟩ := h2 _ _ _ L
    refine ⟨v, hv, b F σ H S L _ fun F' H' w d M' ⟨e1, e2⟩ S' g r => ⟨n, m, rep_int.mp rv, ?_, ?_⟩⟩
    · subst e1 e2; exact rep_int.mp r
    · subst e1 e2
      obtain ⟨k1, k2⟩ := put_ok (v := .int (n + m)) hp hE hi (L.mono g.ff) (rep_int.mpr rfl)
      exact f'.nx F' H' _ _ M' q k1 S' k2 g)
end
end Dl

set_option Elab.async false
set_option linter.all false
set_option maxRecDepth 100000
set_option maxHeartbeats 2000000
/-! Dl: M: several values at once. -/
namespace Dl
open PySem PySem.Spec L2
section
variable {c : Cfg} {ρ ρ' : Env} {M M1 M2 M3 M4 M' : Mem} {pos p2 apos cpos : Pos} {e e1 e2 a b o tg : Expr} {es : List Expr} {d x y z : D} {xs ys ds : List D} {n m : Int} {s t : List Nat} {nm n1 n2 n3 : Str} {P : Post} {sts : List Stmt} {R : D → Mem → Prop}
/-- one behind another, each as the one before has left the memory -/
def PNs (c : Cfg) : List Expr → Env → Mem → (List D → Mem → Prop) → Prop
  | [], _, M, R => R [] M
  | e :: es, ρ, M, R => PN c e ρ M fun x N => PNs c es ρ N fun xs N' => R (x :: xs) N'
def starA (c : Cfg) : List Expr → TA
  | [] => tNil
  | e :: es => tCons (starE c e) (starA c es)
def notStar : Expr → Bool
  | .Starred _ _ => false
  | _ => true
theorem starEach_cons (h : notStar e = true) (env : PySem.Env) : starEach (e :: es) env = (false, eval e env) :: starEach es env := by
  cases e <;> first | rfl | cases h
theorem starA_ok : ∀ {es : List Expr}, es.all notStar = true → ∀ X, c.Has X → PA X es (starA c es)
  | [], _, X, _ => pa_nil
  | e :: es, h, X, hX => by
    obtain ⟨h1, h2⟩ := Bool.and_eq_true_iff.mp (show (notStar e && es.all notStar) = true from h)
    exact pa_cons (starE_ok X hX) (starA_ok h2 X hX) (starEach_cons h1 _)
theorem starA_ev : ∀ {es : List Expr} {M : Mem} {R : List D → Mem → Prop}, PNs c es ρ M R → EnvOk c ρ → EvA c.K (starA c es) ρ M R
  | [], M, R, h, hE => fun F σ H S L Q q => q F H [] [] M h S Go.refl (reps_nil.mpr rfl)
  | e :: es, M, R, h, hE => fun F σ H S L Q q => by
    refine starE_ev h hE F σ H S L _ fun F1 H1 v x M1 r1 S1 g1 p1 => ?_
    exact starA_ev r1 hE F1 σ H1 S1 (L.mono g1.ff) _ fun F2 H2 vs ds M2 r2 S2 g2 p2 => q F2 H2 (v :: vs) (x :: ds) M2 r2 S2 (g1.trans g2) (reps_cons.mpr ⟨v, vs, rfl, p1.mono g2.ff, p2⟩)
theorem pns_nil {R : List D → Mem → Prop} (h : R [] M) : PNs c [] ρ M R := h
theorem pns_v {R : List D → Mem → Prop} (h : PV c e ρ M d M1) (q : PNs c es ρ M1 fun xs N => R (d :: xs) N) : PNs c (e :: es) ρ M R := pn_v h q
theorem pns_n {R : List D → Mem → Prop} {R1 : D → Mem → Prop} (h : PN c e ρ M R1) (q : ∀ x N, R1 x N → PNs c es ρ N fun xs N' => R (x :: xs) N') : PNs c (e :: es) ρ M R := .mk fun hE => by
  obtain ⟨t, a, b⟩ := h.out hE
  exact ⟨t, a, fun F σ H S L Q f => b F σ H S L Q fun F' H' v d N r S' g p => f F' H' v d N (q d N r) S' g p⟩
/-- a, b = x, y: two locals -/
theorem ss_par2 {q1 q2 q3 q4 : Pos} {x1 x2} {f : Option D → Env} (hp1 : Put ρ n1 f) (h : PNs c [a, b] ρ M fun ds N => ∃ x y g, ds = [x, y] ∧ Put (f (some x)) n2 g ∧ PSsn c sts (g (some y)) N P)
    (hp2 : ∃ g, Put ρ n2 g) (hx : c.sc.names.lookup n1 = some .local := by rfl) (hy : c.sc.names.lookup n2 = some .local := by rfl) (hne : n1 ≠ n2 := by decide +kernel) (hst : [a, b].all notStar = true := by rfl)
    (hw : ∀ env : PySem.Env, env.scope = c.sc → swappedStores [.Tuple [.Name n1 q1, .Name n2 q2] x1 q3] (.Tuple [a, b] x2 q4) env = pure (some [n1, n2]) := by intro env he; unfold swappedStores Env.blockKind Env.kindOf; simp only [he]; rfl)
    (hs : ∀ env : PySem.Env, swapsWithSole [.Tuple [.Name n1 q1, .Name n2 q2] x1 q3] (.Tuple [a, b] x2 q4) pos.line env = pure false := by intro _; rfl) : PSsn c (.Assign [.Tuple [.Name n1 q1, .Name n2 q2] x1 q3] (.Tuple [a, b] x2 q4) pos :: sts) ρ M P := pss_cons' (.mk fun hE => by
  obtain ⟨i, hi, _⟩ := pg_nm (pos := q1) hp1 (.inl hx) hE
  obtain ⟨g2, hp2⟩ := hp2
  obtain ⟨j, hj, _⟩ := pg_nm (pos := q2) hp2 (.inl hy) hE
  have hij : i ≠ j := fun z => by
    subst z
    rw [hi] at hj
    exact hne (Option.some.inj hj)
  refine ⟨tPar i j (starA c [a, b]), fun X hX => ps_par hX.calm hX.nd (by rw [hX.N]; exact hi) (by rw [hX.N]; exact hj) hij (by rw [hX.sc]; exact hx) (by rw [hX.sc]; exact hy) (starA_ok hst X hX) (hw _ hX.sc) (hs _), fun F σ H S L D f' => ?_⟩
  refine starA_ev h hE F σ H S L _ fun F' H' vs ds M' r S' gg rs => ?_
  obtain ⟨x, y, g, e, hpg, q⟩ := r
  subst e
  obtain ⟨v, r', rfl, r1, r2⟩ := reps_cons.mp rs
  obtain ⟨w, r'', rfl, r3, r4⟩ := reps_cons.mp r2
  rw [reps_nil.mp r4]
  obtain ⟨E1, L1⟩ := put_ok hp1 hE hi (L.mono gg.ff) r1
  obtain ⟨E2, L2⟩ := put_ok hpg E1 hj L1 r3
  exact ⟨v, w, rfl, f'.nx F' H' _ _ M' q E2 S' L2 gg⟩)
/-- any targets of a written tuple, by the tuple -/
theorem ss_tupT {q3 q4 : Pos} {x2} {tgs : List Expr} {is : List Nat} {fs : List D → Env → Env → Prop} (hg : PGsn c tgs is fs) (h : PNs c es ρ M fun ds N => ds.length = tgs.length ∧ ds.length ≤ sizeLine ∧ ∃ ρ', fs ds ρ ρ' ∧ PSsn c sts ρ' N P)
    (hst : es.all notStar = true := by rfl) (ht1 : ∀ env : PySem.Env, (assignEach tgs env).findIdx? (·.1) = none := by intro _; rfl) (ht2 : ∀ env : PySem.Env, (assignEach tgs env).length = tgs.length := by intro _; rfl)
    (hw : ∀ env : PySem.Env, env.scope = c.sc → swappedStores [.Tuple tgs k1 q3] (.Tuple es x2 q4) env = pure none := by intro env he; unfold swappedStores Env.blockKind Env.kindOf; simp only [he]; rfl)
    (hs : ∀ env : PySem.Env, swapsWithSole [.Tuple tgs k1 q3] (.Tuple es x2 q4) pos.line env = pure false := by intro _; rfl) : PSsn c (.Assign [.Tuple tgs k1 q3] (.Tuple es x2 q4) pos :: sts) ρ M P := pss_cons' (.mk fun hE => by
  obtain ⟨g, g1, g2⟩ := pgn_tup (k := k1) (pos := q3) hg ht1 ht2
  refine ⟨tAsg (tTup (starA c es)) g, fun X hX => ps_asg (pe_tup (starA_ok hst X hX)) (g1 X hX) (hs _) (hw _ hX.sc), fun F σ H S L D f' => ?_⟩
  refine starA_ev h hE F σ H S L _ fun F' H' vs ds M' r S' gg rs => ?_
  obtain ⟨hl, hz, ρ', hf, q⟩ := r
  refine ⟨by rw [rs.len]; exact hz, fun p hp => ?_⟩
  obtain ⟨S2, gn⟩ := S'.new (o := .tup vs) hp
  obtain ⟨E2, k⟩ := g2 (.tup ds) ρ ρ' ⟨ds, rfl, hl, hf⟩ hE
  exact k _ σ _ M' (.ref p) S2 (L.mono (gg.ff.trans gn.ff)) (rep_tup.mpr ⟨p, vs, rfl, SqT.of upd_same, rs.mono gn.ff⟩) _ fun σ' L' _ => f'.nx _ _ ρ' σ' M' q E2 S2 L' (gg.trans gn))
/-- any target of a value -/
theorem ss_tgt {is : List Nat} {f : D → Env → Env → Prop} (hg : PGn c tg is f) (h : PN c e ρ M fun d N => ∃ ρ', f d ρ ρ' ∧ PSsn c sts ρ' N P)
    (hw : ∀ env : PySem.Env, env.scope = c.sc → swappedStores [tg] e env = pure none := by intro env he; rfl)
    (hs : ∀ env : PySem.Env, swapsWithSole [tg] e pos.line env = pure false := by intro _; rfl)
    (h1 : ∀ env : PySem.Env, (assignEach [tg] env).map (·.2) = [assign tg env] := by intro _; rfl) : PSsn c (.Assign [tg] e pos :: sts) ρ M P := pss_cons' (.mk fun hE => by
  obtain ⟨t, a, b⟩ := h.out hE
  obtain ⟨g, g1, g2⟩ := hg
  refine ⟨tAsg t g, fun X hX => ps_asg (a X hX) (g1 X hX) (hs _) (hw _ hX.sc) (h1 _), fun F σ H S L D f' => b F σ H S L _ fun F' H' v d M' r S' gg rv => ?_⟩
  obtain ⟨ρ', hf, q⟩ := r
  obtain ⟨E2, k⟩ := g2 d ρ ρ' hf hE
  exact k F' σ H' M' v S' (L.mono gg.ff) rv _ fun σ' L' _ => f'.nx _ _ ρ' σ' M' q E2 S' L' gg)
/-- x = (something new or drawn) -/
theorem ss_setN {f : Option D → Env} (hp : Put ρ nm f) (h : PN c e ρ M fun d N => PSsn c sts (f (some d)) N P)
    (hl : LocC c nm := by first | exact Or.inl rfl | exact Or.inr ⟨rfl, rfl⟩)
    (hs : ∀ env : PySem.Env, swapsWith e (some (.Name nm p2)) pos.line env = pure false := by intro _; rfl) (hw : ∀ env : PySem.Env, swappedStores [.Name nm p2] e env = pure none := by intro _; rfl) : PSsn c (.Assign [.Name nm p2] e pos :: sts) ρ M P :=
  pss_cons' (ps_set' hp h hl hs hw)
theorem pn_imp {R' : D → Mem → Prop} (h : PN c e ρ M R) (q : ∀ d N, R d N → R' d N) : PN c e ρ M R' := .mk fun hE => by
  obtain ⟨t, a, b⟩ := h.out hE
  exact ⟨t, a, fun F σ H S L Q f => b F σ H S L Q fun F' H' v d N r S' g p => f F' H' v d N (q d N r) S' g p⟩
end
end Dl

set_option Elab.async false
set_option linter.all false
set_option maxRecDepth 100000
set_option maxHeartbeats 2000000
/-! Dl: N: own == and !=, own len, isinstance. -/
namespace Dl
open PySem PySem.Spec PyProof.Rows L2
/-- != by the own == -/
class NeK (K : PySem.W.Frag) (C : Addr) : Prop where
  ne : PySem.W.findIn K (.ref C) "__ne__" = some (some (.builtin "object.__ne__"))
  ob : PySem.W.mroIn K C (.type "object") = some true
section
variable {X : Cx} {CX : CXT} {pins : List (Addr × Obj)} {σ : L2.St} {H : Hp} {s : Shared} {C f : Addr} {fd : FuncData} {ps : List Str} {n : Nat} {sp : Sp} {E : XK} {v : V} {u : Value}
theorem env0_at {A : Around} (I : Inv X pins σ H s) (h : A.frames = X.A.frames) : Env0 X.prog X.w X.K X.mg X.base A X.stack s H := by
  have e := I.env0
  exact ⟨by rw [h]; exact e.frames, e.mod, e.bs, e.bsz, e.funs, e.frf, e.hok, e.bare⟩
theorem run_below {A : Around} {Q : VK} {us : List Value} {vs : List V} (F : FnOk X.prog X.w X.K X.mg X.base CX n f fd ps sp) (hr : Room n A) (hA : A.frames = X.A.frames) (hb : Binds X.K fd ps []) (hx : Passes CX X E) (I : Inv X pins σ H s) (r : Vals vs us) (h : sp vs H Q E) :
    wpAny (model X.prog X.w) A (call (.ref f) us) (EP X pins σ Q) X.xe s := by
  have hl : us.length = ps.length := by rw [← r.length]; exact F.len _ _ _ _ h
  refine wpAny_call (codeAny_mono (F.run A X.stack s H ⟨us, []⟩ us vs Q E hr (env0_at I hA) (by
    have := hb s us I.kIn (by simpa using hl)
    simpa using this) r h) fun r s' hq => ?_)
  cases r with
  | error e => exact hx pins σ H s e s' I hq
  | ok fl =>
    cases fl with
    | ret u => exact I.after hq
    | next => exact False.elim hq
    | brk => exact False.elim hq
    | cont => exact False.elim hq
/-- two objects of the class at C -/
def rOwn (C : Addr) (sp : Sp) (E : XK) : R2 := fun x y H Q => ∃ a b dx dy fs gs, x = .ref a ∧ y = .ref b ∧ H a = some (.ins C dx fs) ∧ H b = some (.ins C dy gs) ∧ sp [.ref a, .ref b] H Q E
theorem op_own {op : CmpOp} (hop : ∀ a b, compareOp op a b = richCompare op a b) (F : FnOk X.prog X.w X.K X.mg X.base CX n f fd ps sp) (hs : PySem.W.findIn X.K (.ref C) (cmpInfo op).2.1 = some (some (.ref f))) (hf : PySem.W.isFn X.K (.ref f) = true)
    (hr : Room n X.A) (hb : Binds X.K fd ps []) (hx : Passes CX X E) : OpR X (compareOp op) (rOwn C sp E) := by
  intro pins s σ H x y v u Q I rx ry h
  obtain ⟨a, b, dx, dy, fs, gs, rfl, rfl, ha, hb', q⟩ := h
  cases (show v = Value.ref a from rx)
  cases (show u = Value.ref b from ry)
  obtain ⟨mA, J, _⟩ := ins_get I.hok ha
  obtain ⟨mB, J', _⟩ := ins_get I.hok hb'
  obtain ⟨od, J, _⟩ := J.look
  obtain ⟨od', J', _⟩ := J'.look
  obtain ⟨m, hF⟩ := I.fr
  rw [hop]
  refine PySem.W.cmp_K (op := op) (tb := .ref C) hr.units0 hF I.ok.mod.kin J J'.type (by simp [PySem.W.notFirst]) hs hf ?_
  refine wpAny_mono (run_below (us := [.ref a, .ref b]) (vs := [.ref a, .ref b]) F hr rfl hb hx I (.cons rfl (.cons rfl .nil)) q) (fun w s' z => ?_) fun _ _ x => x
  obtain ⟨z', H', I', rz, qz⟩ := z
  exact SlX.cmpback rz ⟨z', H', I', rz, qz⟩
/-- != of two objects of the class at C, by the own == -/
def rOwnNe (C : Addr) (sp : Sp) (E : XK) : R2 := fun x y H Q => ∃ a b dx dy fs gs, x = .ref a ∧ y = .ref b ∧ H a = some (.ins C dx fs) ∧ H b = some (.ins C dy gs) ∧ sp [.ref a, .ref b] H (fun v H' => ∃ t, v = .bl t ∧ Q (.bl (!t)) H') E
theorem op_ownNe (F : FnOk X.prog X.w X.K X.mg X.base CX n f fd ps sp) (hs : PySem.W.findIn X.K (.ref C) "__eq__" = some (some (.ref f))) (hf : PySem.W.isFn X.K (.ref f) = true) (hn : NeK X.K C)
    (hr : Room (n + 1) X.A) (hb : Binds X.K fd ps []) (hx : Passes CX X E) : OpR X (compareOp .NotEq) (rOwnNe C sp E) := by
  intro pins s σ H x y v u Q I rx ry h
  obtain ⟨a, b, dx, dy, fs, gs, rfl, rfl, ha, hb', q⟩ := h
  cases (show v = Value.ref a from rx)
  cases (show u = Value.ref b from ry)
  obtain ⟨mA, J, _⟩ := ins_get I.hok ha
  obtain ⟨mB, J', _⟩ := ins_get I.hok hb'
  obtain ⟨od, J, _⟩ := J.look
  obtain ⟨od', J', _⟩ := J'.look
  have hX := I.kIn
  have hr' : Room n X.A.in1 := hr.in1
  have S := PySem.F.cmp_object.ne
  have inner : wpAny (model X.prog X.w) X.A.in1 (Builtin.«object.__ne__» ⟨[.ref a, .ref b], []⟩) (fun fin s' => ∃ w, fin = .done (.ret w) ∧ EP X pins σ Q w s' ∧ w ≠ .notImplemented) X.xe s := by
    unfold Builtin.«object.__ne__»
    refine wpAny_bind (wpAny_pure ?_)
    refine wpAny_bind (wpAny_cRoomFor hr'.units0 ?_)
    refine wpAny_bind (PySem.W.ifBound_K hX J hs hf (wpAny_mono (run_below (us := [.ref a, .ref b]) (vs := [.ref a, .ref b]) (A := X.A.in1) F hr' (by first | rfl | simp [Around.in1]) hb hx I (.cons rfl (.cons rfl .nil)) q) (fun w s' z => ?_) fun _ _ x => x))
    obtain ⟨z', H', I', rz, t, ez, qz⟩ := z
    subst ez
    cases (show w = Value.bool t from rz)
    refine wpAny_bind (wpAny_truthy_bool ?_)
    exact wpAny_pure ⟨_, rfl, ⟨.bl (!t), H', I', rfl, qz⟩, fun z => nomatch z⟩
  have called : wpAny (model X.prog X.w) X.A (call (.builtin "object.__ne__") [.ref a, .ref b]) (fun w s' => EP X pins σ Q w s' ∧ w ≠ .notImplemented) X.xe s := by
    refine wpAny_call (codeAny_call_builtin S.plain PySem.F.cmpEntry_ne ?_)
    refine PySem.W.check_slot PySem.F.cmpKind_ne PySem.F.cmpSplit_ne (J.type.andThen (PySem.W.looks_subIn hX hn.ob)) (PySem.F.cmpArgs_ne _ _) (wpAny_mono inner (fun fin s' h => ?_) fun _ _ z => z)
    obtain ⟨w, rfl, hv⟩ := h
    exact hv
  have one : wpAny (model X.prog X.w) X.A (tryCompare (.ref a) "__ne__" (.ref b)) (fun r s' => ∃ w, r = some w ∧ EP X pins σ Q w s') X.xe s := by
    unfold tryCompare
    refine wpAny_bind (m := callSpecialIfBound? (.ref a) "__ne__" [.ref b]) ?_
    simp only [callSpecialIfBound?, bindSpecialIfBound?]
    have fin : wpAny (model X.prog X.w) X.A (call (.builtin "object.__ne__") ([.ref a] ++ [.ref b]) >>= fun v => pure (some v)) (fun r s' => wpAny (model X.prog X.w) X.A (match r with | some .notImplemented | none => pure none | some v => pure (some v)) (fun r s' => ∃ w, r = some w ∧ EP X pins σ Q w s') X.xe s') X.xe s :=
      wpAny_bind (wpAny_mono called (fun w s' ⟨hw, hne⟩ => wpAny_pure (by
        cases w <;> first | exact absurd rfl hne | exact wpAny_pure ⟨_, rfl, hw⟩)) fun _ _ z => z)
    refine wpAny_holding (wpAny_bind (wpAny_bind (wpAny_bind (J.type.here ((PySem.W.looks_findIn hX hn.ne).here ?_)))))
    refine wpAny_bind (wpAny_askSetting (wpAny_ite ?_))
    split
    · refine wpAny_bind ?_
      rw [S.bind]
      exact wpAny_pure (wpAny_pure fin)
    · refine wpAny_tryCatch (wpAny_bind ?_)
      rw [S.bind]
      exact wpAny_pure (wpAny_pure fin)
  show wpAny (model X.prog X.w) X.A (richCompare .NotEq (.ref a) (.ref b)) _ _ _
  unfold richCompare
  simp only [oneThing_ref]
  refine wpAny_holding (wpAny_bind (wpAny_cRoomFor hr.units0 ?_))
  refine wpAny_bind (J.type.here (wpAny_bind (J'.type.here ?_)))
  rw [if_neg (by simp)]
  refine wpAny_bind (wpAny_pure ?_)
  simp only [Bool.false_eq_true, if_false]
  refine wpAny_bind (wpAny_mono one (fun r s' z => ?_) fun _ _ e => e)
  obtain ⟨w, rfl, hq⟩ := z
  exact wpAny_pure hq
/-- len of an object of the class at C -/
def rLenOwn (C : Addr) (sp : Sp) (E : XK) : List V → Hp → VK → Prop := fun xs H Q => ∃ a dx fs, xs = [V.ref a] ∧ H a = some (.ins C dx fs) ∧ sp [.ref a] H (fun z H' => ∃ i : Int, z = .int i ∧ 0 ≤ i ∧ i < 2 ^ 63 ∧ Q z H') E
theorem call_lenOwn (F : FnOk X.prog X.w X.K X.mg X.base CX n f fd ps sp) (hs : PySem.W.findIn X.K (.ref C) "__len__" = some (some (.ref f))) (hf : PySem.W.isFn X.K (.ref f) = true) (hr : Room (n + 1) X.A) (hb : Binds X.K fd ps []) (hx : Passes CX X E) :
    CallR X (.builtin "len") (rLenOwn C sp E) := by
  intro pins s σ H xs us Q I r h
  obtain ⟨a, dx, fs, rfl, ha, q⟩ := h
  obtain ⟨u1, rfl, r1⟩ : ∃ u1, us = [u1] ∧ RelV (V.ref a) u1 := by
    cases r with
    | cons h t => cases t; exact ⟨_, rfl, h⟩
  cases (show u1 = Value.ref a from r1)
  obtain ⟨mA, J, _⟩ := ins_get I.hok ha
  obtain ⟨od, J, _⟩ := J.look
  obtain ⟨m, hF⟩ := I.fr
  refine PySem.W.len_K hF I.ok.mod.kin J hs hf ?_
  refine wpAny_mono (run_below (us := [.ref a]) (vs := [.ref a]) (A := X.A.in1) F hr.in1 (by first | rfl | simp [Around.in1]) hb hx I (.cons rfl .nil) q) (fun w s' z => ?_) fun _ _ x => x
  obtain ⟨z', H', I', rz, i, ez, h0, h1, qz⟩ := z
  subst ez
  obtain ⟨t, e⟩ := (show ∃ t, w = Value.int i t from rz)
  cases e
  exact ⟨⟨h0, h1⟩, .int i, H', I'.tok _, ⟨_, rfl⟩, qz⟩
end
/-- what isinstance asks of the class at C, the class of the value -/
class IsiK (K : PySem.W.Frag) (C : Addr) : Prop where
  cl : Cls K C
  ca : PySem.W.findIn K (.ref C) "__class__" = some (some (.builtin "object.__class__"))
  cn : PySem.W.specialIn K (.builtin "object.__class__") "__get__" = some (some (.builtin "getset_descriptor.__get__"))
  ct : PySem.W.takesIn K (.builtin "object.__class__") = some true
  cm : PySem.W.mroIn K C (.type "object") = some true
/-- isinstance's answer for a value of class t, asked for u -/
class IsR (K : PySem.W.Frag) (t u : Value) (b : outParam Bool) : Prop where
  kit : PySem.W.kitOne K t u = some b
class ClsK (K : PySem.W.Frag) (C : Addr) : Prop where
  cls : ((PySem.W.clsIn K C).isSome && PySem.W.typeIn K (.ref C) == some (.type "type")) = true
class NoBase (K : PySem.W.Frag) (C : Addr) (T : String) : Prop where
  no : PySem.W.mroIn K C (.type T) = some false
class NoSub (K : PySem.W.Frag) (C D : Addr) : Prop where
  no : PySem.W.mroIn K C (.ref D) = some false
  ne : C ≠ D
section
variable {K : PySem.W.Frag} {C D : Addr}
instance (n : String) : IsR K (.type n) (.type n) true := ⟨by unfold PySem.W.kitOne; rw [if_pos (by simp)]⟩
instance : IsR K (.ref C) (.ref C) true := ⟨by unfold PySem.W.kitOne; rw [if_pos (by simp)]⟩
instance [k : ClsK K D] [h : NoSub K C D] : IsR K (.ref C) (.ref D) false := ⟨by
  unfold PySem.W.kitOne PySem.W.kitCls
  rw [if_neg (by have := h.ne; simp [this])]
  dsimp only
  rw [if_pos k.cls]
  exact h.no⟩
theorem isR_own (T : String) [k : ClsK K D] (h : ∃ l, PySem.fastBuiltinMro T = some l ∧ ∀ a, l.contains (Value.ref a) = false) : IsR K (.type T) (.ref D) false := ⟨by
  obtain ⟨l, h1, h2⟩ := h
  unfold PySem.W.kitOne PySem.W.kitCls
  rw [if_neg (by simp)]
  dsimp only
  rw [if_pos k.cls]
  show (PySem.fastBuiltinMro T).map (·.contains (Value.ref D)) = some false
  rw [h1, Option.map_some, h2]⟩
theorem isR_base {T : String} (hm : PySem.W.kitMeta T = true) [h : NoBase K C T] : IsR K (.ref C) (.type T) false := ⟨by
  unfold PySem.W.kitOne PySem.W.kitCls
  rw [if_neg (by simp)]
  dsimp only
  rw [if_pos hm]
  exact h.no⟩
instance : IsR K (.type "NoneType") (.type "bool") false := ⟨kit_ty (by decide +kernel)⟩
instance : IsR K (.type "NoneType") (.type "int") false := ⟨kit_ty (by decide +kernel)⟩
instance : IsR K (.type "NoneType") (.type "str") false := ⟨kit_ty (by decide +kernel)⟩
instance : IsR K (.type "NoneType") (.type "list") false := ⟨kit_ty (by decide +kernel)⟩
instance : IsR K (.type "NoneType") (.type "tuple") false := ⟨kit_ty (by decide +kernel)⟩
instance : IsR K (.type "NoneType") (.type "dict") false := ⟨kit_ty (by decide +kernel)⟩
instance : IsR K (.type "bool") (.type "int") true := ⟨kit_ty (by decide +kernel)⟩
instance : IsR K (.type "bool") (.type "str") false := ⟨kit_ty (by decide +kernel)⟩
instance : IsR K (.type "bool") (.type "list") false := ⟨kit_ty (by decide +kernel)⟩
instance : IsR K (.type "bool") (.type "tuple") false := ⟨kit_ty (by decide +kernel)⟩
instance : IsR K (.type "bool") (.type "dict") false := ⟨kit_ty (by decide +kernel)⟩
instance : IsR K (.type "int") (.type "bool") false := ⟨kit_ty (by decide +kernel)⟩
instance : IsR K (.type "int") (.type "str") false := ⟨kit_ty (by decide +kernel)⟩
instance : IsR K (.type "int") (.type "list") false := ⟨kit_ty (by decide +kernel)⟩
instance : IsR K (.type "int") (.type "tuple") false := ⟨kit_ty (by decide +kernel)⟩
instance : IsR K (.type "int") (.type "dict") false := ⟨kit_ty (by decide +kernel)⟩
instance : IsR K (.type "str") (.type "bool") false := ⟨kit_ty (by decide +kernel)⟩
instance : IsR K (.type "str") (.type "int") false := ⟨kit_ty (by decide +kernel)⟩
instance : IsR K (.type "str") (.type "list") false := ⟨kit_ty (by decide +kernel)⟩
instance : IsR K (.type "str") (.type "tuple") false := ⟨kit_ty (by decide +kernel)⟩
instance : IsR K (.type "str") (.type "dict") false := ⟨kit_ty (by decide +kernel)⟩
instance : IsR K (.type "list") (.type "bool") false := ⟨kit_ty (by decide +kernel)⟩
instance : IsR K (.type "list") (.type "int") false := ⟨kit_ty (by decide +kernel)⟩
instance : IsR K (.type "list") (.type "str") false := ⟨kit_ty (by decide +kernel)⟩
instance : IsR K (.type "list") (.type "tuple") false := ⟨kit_ty (by decide +kernel)⟩
instance : IsR K (.type "list") (.type "dict") false := ⟨kit_ty (by decide +kernel)⟩
instance : IsR K (.type "tuple") (.type "bool") false := ⟨kit_ty (by decide +kernel)⟩
instance : IsR K (.type "tuple") (.type "int") false := ⟨kit_ty (by decide +kernel)⟩
instance : IsR K (.type "tuple") (.type "str") false := ⟨kit_ty (by decide +kernel)⟩
instance : IsR K (.type "tuple") (.type "list") false := ⟨kit_ty (by decide +kernel)⟩
instance : IsR K (.type "tuple") (.type "dict") false := ⟨kit_ty (by decide +kernel)⟩
instance : IsR K (.type "dict") (.type "bool") false := ⟨kit_ty (by decide +kernel)⟩
instance : IsR K (.type "dict") (.type "int") false := ⟨kit_ty (by decide +kernel)⟩
instance : IsR K (.type "dict") (.type "str") false := ⟨kit_ty (by decide +kernel)⟩
instance : IsR K (.type "dict") (.type "list") false := ⟨kit_ty (by decide +kernel)⟩
instance : IsR K (.type "dict") (.type "tuple") false := ⟨kit_ty (by decide +kernel)⟩
instance [ClsK K D] : IsR K (.type "NoneType") (.ref D) false := isR_own "NoneType" ⟨_, (by decide +kernel : PySem.fastBuiltinMro "NoneType" = some [.type "NoneType", .type "object"]), fun a => by simp⟩
instance [ClsK K D] : IsR K (.type "bool") (.ref D) false := isR_own "bool" ⟨_, (by decide +kernel : PySem.fastBuiltinMro "bool" = some [.type "bool", .type "int", .type "object"]), fun a => by simp⟩
instance [ClsK K D] : IsR K (.type "int") (.ref D) false := isR_own "int" ⟨_, (by decide +kernel : PySem.fastBuiltinMro "int" = some [.type "int", .type "object"]), fun a => by simp⟩
instance [ClsK K D] : IsR K (.type "str") (.ref D) false := isR_own "str" ⟨_, (by decide +kernel : PySem.fastBuiltinMro "str" = some [.type "str", .type "object"]), fun a => by simp⟩
instance [ClsK K D] : IsR K (.type "list") (.ref D) false := isR_own "list" ⟨_, (by decide +kernel : PySem.fastBuiltinMro "list" = some [.type "list", .type "object"]), fun a => by simp⟩
instance [ClsK K D] : IsR K (.type "tuple") (.ref D) false := isR_own "tuple" ⟨_, (by decide +kernel : PySem.fastBuiltinMro "tuple" = some [.type "tuple", .type "object"]), fun a => by simp⟩
instance [ClsK K D] : IsR K (.type "dict") (.ref D) false := isR_own "dict" ⟨_, (by decide +kernel : PySem.fastBuiltinMro "dict" = some [.type "dict", .type "object"]), fun a => by simp⟩
instance [NoBase K C "bool"] : IsR K (.ref C) (.type "bool") false := isR_base (by decide +kernel)
instance [NoBase K C "int"] : IsR K (.ref C) (.type "int") false := isR_base (by decide +kernel)
instance [NoBase K C "str"] : IsR K (.ref C) (.type "str") false := isR_base (by decide +kernel)
instance [NoBase K C "list"] : IsR K (.ref C) (.type "list") false := isR_base (by decide +kernel)
instance [NoBase K C "tuple"] : IsR K (.ref C) (.type "tuple") false := isR_base (by decide +kernel)
instance [NoBase K C "dict"] : IsR K (.ref C) (.type "dict") false := isR_base (by decide +kernel)
end
class TyOk (K : PySem.W.Frag) (d : D) (t : outParam Value) : Prop where
  ty : ∀ F H M v, Sit K F M H → Rep K F d v → TyX K H v t
section
variable {K : PySem.W.Frag} {C : Addr}
instance : TyOk K .non (.type "NoneType") := ⟨fun F H M v S r => by rw [rep_non.mp r]; exact TyX.base TyOf.non⟩
instance (b : Bool) : TyOk K (.bl b) (.type "bool") := ⟨fun F H M v S r => by rw [rep_bl.mp r]; exact .base (.bl _)⟩
instance (n : Int) : TyOk K (.int n) (.type "int") := ⟨fun F H M v S r => by rw [rep_int.mp r]; exact .base (.int _)⟩
instance (s : List Nat) : TyOk K (.str s) (.type "str") := ⟨fun F H M v S r => by rw [rep_str.mp r]; exact .base (.str _)⟩
instance (xs : List D) : TyOk K (.lst xs) (.type "list") := ⟨fun F H M v S r => by
  obtain ⟨a, vs, rfl, h, _⟩ := rep_lstS r
  rcases sql_up S h with (h | ⟨o, h⟩) | ⟨o, _, _, h, e, _⟩
  · exact .base (.lst h)
  · exact .base (.frz h)
  · exact .kList h e⟩
instance (xs : List D) : TyOk K (.tup xs) (.type "tuple") := ⟨fun F H M v S r => by
  obtain ⟨a, vs, rfl, h, _⟩ := rep_tup.mp r
  rcases sqt_up S h with (h | ⟨o, h⟩) | ⟨o, _, _, h, e, _⟩
  · exact .base (.tup h)
  · exact .fTuple h
  · exact .kTuple h e⟩
instance (kvs : List (DK × D)) : TyOk K (.dct kvs) (.type "dict") := ⟨fun F H M v S r => by
  obtain ⟨a, vs, rfl, ⟨o, h⟩, _⟩ := rep_dct.mp r
  exact .fDict (S.fh _ _ h)⟩
instance (fs : List (Str × D)) [h : IsiK K C] : TyOk K (.obj C fs) (.ref C) := ⟨fun F H M v S r => by
  obtain ⟨a, dx, ws, rfl, e, _⟩ := rep_obj.mp r
  exact .base (.ins (S.fh _ _ e) h.cl h.ca h.cn h.ct h.cm)⟩
end
/-- a class as a value -/
class ClD (y : D) (u : outParam Value) : Prop where
  of : ∀ K F v, Rep K F y v → ClsV v u
instance (n : String) : ClD (.ty n) (.type n) := ⟨fun K F v r => by rw [rep_ty.mp r]; exact .ty n⟩
instance (C : Addr) : ClD (.ref C) (.ref C) := ⟨fun K F v r => by rw [rep_ref.mp r]; exact .own C⟩
section
variable {c : Cfg} {ρ : Env} {M M1 M2 M3 M' : Mem} {pos p2 p3 : Pos} {e a b : Expr} {es : List Expr} {d x y z : D} {xs ys ds : List D} {nm : Str} {C : Addr} {fs gs : List (Str × D)} {rel : DRel}
theorem pv_type {T : String} (hv : bootBuiltins nm = some (.type T)) (hf : BltF c.K c.mg nm) (hg : GlC c nm := by rfl) (hn : nm ≠ "__name__" := by decide) (hdb : (nm == ("__debug__" : Str)) = false := by decide) : PV c (.Name nm pos) ρ M (.ty T) M := .mk fun hE =>
  ⟨tC (.ty T), fun X hX => ⟨fun pins s σ H Q I h => ld_blt I (hg.gl hX) (by rw [hX.mg]; exact hf.no) hv ⟨.ty T, H, I, rfl, h⟩ hn hdb⟩, fun F σ H S L Q q => q F H _ _ M ⟨rfl, rfl⟩ S Go.refl (rep_ty.mpr rfl)⟩
theorem pv_cls (hm : c.mg nm = some (.ref C)) (hg : GlC c nm := by rfl) (hdb : (nm == ("__debug__" : Str)) = false := by decide) : PV c (.Name nm pos) ρ M (.ref C) M := .mk fun hE =>
  ⟨tC (.ref C), fun X hX => pe_glob (hg.gl hX) (by rw [hX.mg]; exact hm) rfl hdb, fun F σ H S L Q q => q F H _ _ M ⟨rfl, rfl⟩ S Go.refl (rep_ref.mpr rfl)⟩
theorem pv_isi {t u : Value} {r : Bool} (ha : PV c a ρ M x M1) (hb : PV c b ρ M1 y M2) (hx : TyOk c.K x t) (hy : ClD y u) (hk : IsR c.K t u r) (hf : BltF c.K c.mg "isinstance") (hg : GlC c "isinstance" := by rfl)
    (hs : ∀ env : PySem.Env, starEach [a, b] env = (false, eval a env) :: starEach [b] env := by intro _; rfl) (hs2 : ∀ env : PySem.Env, starEach [b] env = (false, eval b env) :: starEach [] env := by intro _; rfl)
    (hpl : ∀ env : PySem.Env, (backTo pos (starEach [b] env)).any (·.1) = false := by intro _; rfl) : PV c (.Call (.Name "isinstance" p2) [a, b] [] pos) ρ M (.bl r) M2 :=
  pv_blt (pas2 ha hb hs hs2) hf (fun X hX => (by rw [← hX.K]; exact call_isi : CallR X (.builtin "isinstance") (rIsi c.K))) boot_isinstance (fun F H vs S rs Q q => by
    obtain ⟨v, w, rfl, r1, r2⟩ := reps2 rs
    exact ⟨v, w, t, u, r, rfl, hy.of _ _ _ r2, hx.ty F H M2 v S r1, hk.kit, q F H _ S Go.refl (rep_bl.mpr rfl)⟩) hg (by decide) (by decide) hs hpl
end
end Dl

set_option Elab.async false
set_option linter.all false
set_option maxRecDepth 100000
set_option maxHeartbeats 2000000
/-! Dl: O: own operators in data, isinstance of several classes, more built-ins. -/
namespace Dl
open PySem PySem.Spec PyProof.Rows L2
section
variable {c : Cfg} {ρ ρ' : Env} {M M1 M2 M3 M' : Mem} {pos p2 p3 apos cpos : Pos} {e a b o : Expr} {es : List Expr} {d x y z : D} {xs ys ds : List D} {n m : Int} {s t : List Nat} {nm : Str} {C : Addr} {fs gs : List (Str × D)} {rel : DRel} {k : Nat}
theorem ownM {K : PySem.W.Frag} {F H : Hp} {v w : V} {Q : VK} {E : XK} (S : Sit K F M H) (h1 : Rep K F (.obj C fs) v) (h2 : Rep K F (.obj C gs) w) (h : rel [.obj C fs, .obj C gs] [] d []) (q : ∀ F' H' u, Sit K F' M H' → Go M F H M F' H' → Rep K F' d u → Q u H') :
    ∃ a b dx dy fs' gs', v = .ref a ∧ w = .ref b ∧ H a = some (.ins C dx fs') ∧ H b = some (.ins C dy gs') ∧ spD K rel [.ref a, .ref b] H Q E := by
  obtain ⟨p, dx, ws, rfl, e1, r1⟩ := rep_obj.mp h1
  obtain ⟨p', dx', ws', rfl, e2, r2⟩ := rep_obj.mp h2
  exact ⟨p, p', dx, dx', ws, ws', rfl, rfl, S.fh _ _ e1, S.fh _ _ e2, callM_run (.none h) S (reps_cons.mpr ⟨_, _, rfl, h1, reps_cons.mpr ⟨_, _, rfl, h2, reps_nil.mpr rfl⟩⟩) q⟩
theorem MtS.bare {m : Str} (G : MtS c.P c.w c.K c.mg c.base C m k [] rel) : ∃ (f : Addr) (fd : FuncData) (ps : List Str), Meth c.K C m f ∧ Binds c.K fd ps [] ∧ FnOk c.P c.w c.K c.mg c.base CX0 k f fd ps (spD c.K rel) := by
  obtain ⟨f, fd, ps, dvs, dus, hm, hb, hv, hrv, hF⟩ := G.ex
  have := reps_nil.mp (hrv (fun _ => none))
  subst this
  cases hv
  exact ⟨f, fd, ps, hm, hb, hF⟩
theorem o_ownEq (G : MtS c.P c.w c.K c.mg c.base C "__eq__" k [] rel) (h : rel [.obj C fs, .obj C gs] [] d []) (hk : k ≤ c.k := by dsimp only; decide) : CmpD c .Eq (.obj C fs) (.obj C gs) M d M := .mk <| by
  obtain ⟨f, fd, ps, hm, hb, hF⟩ := G.bare
  refine ⟨rOwn C (spD c.K rel) E0, fun X hX => op_own (fun _ _ => rfl) (by rw [hX.P, hX.w, hX.K, hX.mg, hX.base]; exact hF) (by rw [hX.K]; exact hm.at_) (by rw [hX.K]; exact hm.fn) (hX.room.mono hk) (by rw [hX.K]; exact hb) pass0, fun F H v w S r1 r2 Q q => ?_⟩
  exact ownM S r1 r2 h q
theorem o_ownLe (G : MtS c.P c.w c.K c.mg c.base C "__le__" k [] rel) (h : rel [.obj C fs, .obj C gs] [] d []) (hk : k ≤ c.k := by dsimp only; decide) : CmpD c .LtE (.obj C fs) (.obj C gs) M d M := .mk <| by
  obtain ⟨f, fd, ps, hm, hb, hF⟩ := G.bare
  refine ⟨rOwn C (spD c.K rel) E0, fun X hX => op_own (fun _ _ => rfl) (by rw [hX.P, hX.w, hX.K, hX.mg, hX.base]; exact hF) (by rw [hX.K]; exact hm.at_) (by rw [hX.K]; exact hm.fn) (hX.room.mono hk) (by rw [hX.K]; exact hb) pass0, fun F H v w S r1 r2 Q q => ?_⟩
  exact ownM S r1 r2 h q
theorem o_ownLt (G : MtS c.P c.w c.K c.mg c.base C "__lt__" k [] rel) (h : rel [.obj C fs, .obj C gs] [] d []) (hk : k ≤ c.k := by dsimp only; decide) : CmpD c .Lt (.obj C fs) (.obj C gs) M d M := .mk <| by
  obtain ⟨f, fd, ps, hm, hb, hF⟩ := G.bare
  refine ⟨rOwn C (spD c.K rel) E0, fun X hX => op_own (fun _ _ => rfl) (by rw [hX.P, hX.w, hX.K, hX.mg, hX.base]; exact hF) (by rw [hX.K]; exact hm.at_) (by rw [hX.K]; exact hm.fn) (hX.room.mono hk) (by rw [hX.K]; exact hb) pass0, fun F H v w S r1 r2 Q q => ?_⟩
  exact ownM S r1 r2 h q
theorem o_ownNe {t : Bool} (G : MtS c.P c.w c.K c.mg c.base C "__eq__" k [] rel) (hn : NeK c.K C) (h : rel [.obj C fs, .obj C gs] [] (.bl t) []) (hk : k + 1 ≤ c.k := by dsimp only; decide) : CmpD c .NotEq (.obj C fs) (.obj C gs) M (.bl (!t)) M := .mk <| by
  obtain ⟨f, fd, ps, hm, hb, hF⟩ := G.bare
  refine ⟨rOwnNe C (spD c.K rel) E0, fun X hX => op_ownNe (by rw [hX.P, hX.w, hX.K, hX.mg, hX.base]; exact hF) (by rw [hX.K]; exact hm.at_) (by rw [hX.K]; exact hm.fn) (by rw [hX.K]; exact hn) (hX.room.mono hk) (by rw [hX.K]; exact hb) pass0, fun F H v w S r1 r2 Q q => ?_⟩
  exact ownM S r1 r2 h fun F' H' u S' g r => ⟨t, rep_bl.mp r, q F' H' _ S' g (rep_bl.mpr rfl)⟩
theorem b_lenO (G : MtS c.P c.w c.K c.mg c.base C "__len__" k [] rel) (h : rel [.obj C fs] [] (.int n) []) (h0 : 0 ≤ n) (h1 : n < 2 ^ 63) (hf : BltF c.K c.mg "len") (hk : k + 1 ≤ c.k := by dsimp only; decide) (hg : GlC c "len" := by rfl) (hs : Pl1 e := by intro _; rfl) :
    B1 c "len" e ρ M (.obj C fs) M1 (.int n) M1 p2 pos := .mk fun ha => by
  obtain ⟨f, fd, ps, hm, hb, hF⟩ := G.bare
  refine pv_blt (r := rLenOwn C (spD c.K rel) E0) (pas1 ha hs) hf (fun X hX => call_lenOwn (by rw [hX.P, hX.w, hX.K, hX.mg, hX.base]; exact hF) (by rw [hX.K]; exact hm.at_) (by rw [hX.K]; exact hm.fn) (hX.room.mono hk) (by rw [hX.K]; exact hb) pass0) (by decide +kernel) (fun F H vs S rs Q q => ?_) hg (by decide) (by decide) hs
  obtain ⟨v, rfl, r1⟩ := reps1 rs
  obtain ⟨p, dx, ws, rfl, e1, r2⟩ := rep_obj.mp r1
  exact ⟨p, dx, ws, rfl, S.fh _ _ e1, callM_run (.none h) S rs fun F' H' u S' g r => ⟨n, rep_int.mp r, h0, h1, q F' H' u S' g r⟩⟩
theorem kitAny2 {K : PySem.W.Frag} {t u1 u2 : Value} {b1 b2 : Bool} (h1 : PySem.W.kitOne K t u1 = some b1) (h2 : PySem.W.kitOne K t u2 = some b2) : PySem.W.kitAny K t [u1, u2] = some (b1 || b2) := by
  cases b1 <;> cases b2 <;> simp [PySem.W.kitAny, h1, h2]
theorem pv_isi2 {t u1 u2 : Value} {y1 y2 : D} {a1 a2 : Expr} {k3 : Nat} {b1 b2 : Bool} (ha : PV c a ρ M x M1) (hb1 : PV c a1 ρ M1 y1 M2) (hb2 : PV c a2 ρ M2 y2 M3) (hx : TyOk c.K x t) (hy1 : ClD y1 u1) (hy2 : ClD y2 u2) (hk1 : IsR c.K t u1 b1) (hk2 : IsR c.K t u2 b2) (hf : BltF c.K c.mg "isinstance") (hg : GlC c "isinstance" := by rfl)
    (hs : ∀ env : PySem.Env, starEach [a, .Tuple [a1, a2] k3 p3] env = (false, eval a env) :: starEach [.Tuple [a1, a2] k3 p3] env := by intro _; rfl)
    (hs2 : ∀ env : PySem.Env, starEach [.Tuple [a1, a2] k3 p3] env = (false, eval (.Tuple [a1, a2] k3 p3) env) :: starEach [] env := by intro _; rfl)
    (hpl : ∀ env : PySem.Env, (backTo pos (starEach [.Tuple [a1, a2] k3 p3] env)).any (·.1) = false := by intro _; rfl)
    (hs3 : ∀ env : PySem.Env, starEach [a1, a2] env = (false, eval a1 env) :: starEach [a2] env := by intro _; rfl) (hs4 : ∀ env : PySem.Env, starEach [a2] env = (false, eval a2 env) :: starEach [] env := by intro _; rfl) :
    PV c (.Call (.Name "isinstance" p2) [a, .Tuple [a1, a2] k3 p3] [] pos) ρ M (.bl (b1 || b2)) M3 := .mk fun hE => by
  obtain ⟨ta, q1, q2⟩ := ha.out hE
  obtain ⟨tb, r1, r2⟩ := (pas2 hb1 hb2 hs3 hs4).out hE
  refine ⟨tCB (rIsiT c.K) (tCons ta (tCons (tTup tb) tNil)), fun X hX => pe_callB (by rw [← hX.K]; exact call_isiT) (hg.gl hX) (by rw [hX.mg]; exact hf.no) boot_isinstance (pa_cons (q1 X hX) (pa_cons (pe_tup (r1 X hX)) pa_nil (hs2 _)) (hs _)) (by decide) (by decide) (hs _) (hpl _), fun F σ H S L Q q => ?_⟩
  refine q2 F σ H S L _ fun F1 H1 v x' M1' ⟨e1, e2⟩ S1 g1 p1 => ?_
  subst e1 e2
  refine r2 F1 σ H1 S1 (L.mono g1.ff) _ fun F2 H2 vs ds' M2' ⟨e1, e2⟩ S2 g2 p2 => ?_
  subst e1 e2
  refine ⟨by rw [p2.len]; exact (by decide : 2 ≤ sizeLine), fun p hp => ?_⟩
  obtain ⟨S3, g3⟩ := S2.new (o := .tup vs) hp
  have rv := (p1.mono g2.ff).mono g3.ff
  obtain ⟨w1, w2, rfl, z1, z2⟩ := reps2 p2
  refine ⟨v, p, [w1, w2], t, [u1, u2], b1 || b2, rfl, upd_same, .cons (hy1.of _ _ _ z1) (.cons (hy2.of _ _ _ z2) .nil), hx.ty _ _ M2' v S3 rv, kitAny2 hk1.kit hk2.kit, q _ _ _ _ _ ⟨rfl, rfl⟩ S3 (g1.trans (g2.trans g3)) (rep_bl.mpr rfl)⟩
end
end Dl

set_option Elab.async false
set_option linter.all false
set_option maxRecDepth 100000
set_option maxHeartbeats 4000000
/-! Dl: P: enumerate and zip over texts, lists, tuples. -/
namespace Dl
open PySem PySem.Spec PyProof.Rows L2
open Builtin
theorem meets_enum1 {v : Value} {o : Obj} {H : Heap → Prop} (B : Begins v o H) :
    Meets (Builtin.«enumerate.__new__» ⟨[.type "enumerate", v], []⟩) (fun _ R s => H s.heap ∧
      R (.ok (.ret (.ref (s.heap.push o).objs.size))) { s with heap := (s.heap.push o).push { cls := .type "enumerate", data := .fields #[.none, .bool false, .ref s.heap.objs.size, rawInt 0, .none, .none] } }) :=
  .of_wp fun prog w A R s h => by
    obtain ⟨hp, g, d, tk, os⟩ := s; obtain ⟨h1, h⟩ := h
    have hsub := sub_enumerate
    have q1 : ∀ {A' : Around} {E : Value → Shared → Prop} {Q : Value → Shared → Prop}, Q (.ref hp.objs.size) ⟨hp.push o, g, d, tk, os⟩ → wpAny (model prog w) A' (pyIter v) Q E ⟨hp, g, d, tk, os⟩ :=
      fun q => B.iter prog w _ _ ⟨hp, g, d, tk, os⟩ _ h1 q
    wp_walk using q1
    refine wpAny_stack_any fun st => wpAny_pure ?_
    split
    · rename_i c _ _ _ _ _
      cases (c == Value.type "enumerate")
      · wp_walk using q1
        exact ⟨_, rfl, h⟩
      · wp_walk using q1
        exact ⟨_, rfl, h⟩
    · wp_walk using q1
      exact ⟨_, rfl, h⟩
theorem enum1_begins {prog : Program} {w : World} {A : Around} {E : Value → Shared → Prop} {s : Shared} {v : Value} {o : Obj} {H : Heap → Prop} {Q : Value → Shared → Prop} (B : Begins v o H) (h1 : H s.heap)
    (h : ∀ h', IsEnum h' (s.heap.objs.size + 1) s.heap.objs.size 0 .none → h'.get? s.heap.objs.size = some o → h'.objs.size = s.heap.objs.size + 2 →
      (∀ b o, s.heap.get? b = some o → h'.get? b = some o) → Q (.ref (s.heap.objs.size + 1)) { s with heap := h' }) :
    wpAny (model prog w) A (call (.type "enumerate") [v]) Q E s := by
  refine callType_new F.called_enumerate (by decide) (F.typeCall_enumerate_1 _) (F.newCall_enumerate_1 _) (fun obj => F.args_object_init_2 obj _) F.entry_enumerate_new
    (meets_enum1 B) ⟨h1, ?_⟩
  have hz : (s.heap.push o).objs.size = s.heap.objs.size + 1 := Heap.size_push ..
  show _ ∧ _
  rw [hz]
  have he : IsEnum ((s.heap.push o).push { cls := .type "enumerate", data := .fields #[.none, .bool false, .ref s.heap.objs.size, rawInt 0, .none, .none] }) (s.heap.objs.size + 1) s.heap.objs.size 0 .none := by
    have := Heap.get?_push_size (s.heap.push o) (o := { cls := .type "enumerate", data := .fields #[.none, .bool false, .ref s.heap.objs.size, rawInt 0, .none, .none] }) rfl
    rw [hz] at this; exact this
  exact ⟨⟨_, he, rfl⟩, h _ he (Heap.get?_push_of_some _ (Heap.get?_push_size _ B.free)) (by rw [Heap.size_push, hz]) fun b o x => Heap.get?_push_of_some _ (Heap.get?_push_of_some _ x)⟩
/-- a thing to go through -/
structure Src where
  fpr : List Addr
  st : Addr → Nat → Heap → Prop
  go : Nat → Hp → Prop
  it : Nat → Hp → V → Prop
  stop : Nat → Hp → Prop
structure SrcOk (P : Program) (w : World) (K : PySem.W.Frag) (S : Src) : Prop where
  obj : ∀ it i h, S.st it i h → ∃ o, h.get? it = some o ∧ ∀ v, o.data ≠ .cell v
  keep : ∀ it i h h', S.st it i h → (∀ o, h.get? it = some o → h'.get? it = some o) → S.st it i h'
  draws : ∀ (X : Cx), X.prog = P → X.w = w → X.K = K → ∀ (A : Around), A.handled = none → ∀ (pins : List (Addr × Obj)) (σ : L2.St) (s : Shared) (H : Hp) (it i : Nat), (∀ b ∈ S.fpr, b ≠ it) → L2.Inv X pins σ H s → S.st it i s.heap → (S.go i H ∨ S.stop i H) →
    ∃ (n : Nat) (Pv : Nat → Value → Prop) (St : Nat → Heap → Prop), Draws P w A it (it :: S.fpr) n Pv St ∧ St i s.heap ∧ (∀ h', St (i + 1) h' → S.st it (i + 1) h') ∧ (S.go i H → i < n) ∧ (S.stop i H → i = n) ∧ (∀ u, Pv i u → ∃ x, L2.RelV x u ∧ S.it i H x)
/-- going through v begins -/
structure SrcAt (P : Program) (w : World) (K : PySem.W.Frag) (S : Src) (v : V) (H : Hp) : Prop where
  ok : SrcOk P w K S
  beg : ∀ (X : Cx), X.prog = P → X.w = w → X.K = K → ∀ (pins : List (Addr × Obj)) (σ : L2.St) (s : Shared) (u : Value), L2.Inv X pins σ H s → L2.RelV v u → ∃ (o : Obj) (Hc : Heap → Prop), Begins u o Hc ∧ Hc s.heap ∧ (∀ it h, h.get? it = some o → S.st it 0 h) ∧ ∀ b ∈ S.fpr, b < s.heap.objs.size
section
variable {P : Program} {w : World} {K : PySem.W.Frag} {elts : List Expr} {kk : Nat} {tpos : Pos}
def ItE (S : Src) : It := ⟨S.go, fun i H v H' => ∃ T x, v = .ref T ∧ H T = none ∧ H' = upd H T (.tup [.int (i : Nat), x]) ∧ S.it i H x, S.stop⟩
theorem turn_enumS {S : Src} (hS : SrcOk P w K S) {e it : Addr} (hne : e ≠ it) (hf1 : ∀ b ∈ S.fpr, b ≠ it) (hf2 : e ∉ S.fpr) :
    Turn P w K (.Tuple elts kk tpos) (ItE S) [e, it] e (fun i h => (∃ old, IsEnum h e it ((i : Nat) : Int) old) ∧ S.st it i h) where
  mem := by simp
  obj := fun i h st b hb => by
    obtain ⟨⟨old, he⟩, hs⟩ := st
    have e' : b = e ∨ b = it := by simpa using hb
    rcases e' with z | z
    · rw [z]; exact ⟨_, he, fun v q => nomatch q⟩
    · rw [z]; exact hS.obj _ _ _ hs
  keep := fun i h h' st k => by
    obtain ⟨⟨old, he⟩, hs⟩ := st
    exact ⟨⟨old, k e (by simp) _ he⟩, hS.keep _ _ _ _ hs fun o q => k it (by simp) o q⟩
  item := by
    intro X hP hw hK hc i pins s σ H E I hf st hg
    obtain ⟨⟨old, he⟩, hs⟩ := st
    obtain ⟨n, Pv, St, D, st0, st1, hgo, _, hit⟩ := hS.draws X hP hw hK X.A.in1 (I.ok.hd hc) pins σ s H it i hf1 I hs (.inl hg)
    have hel : e < s.heap.objs.size := Heap.lt_size he
    have hil : it < s.heap.objs.size := by obtain ⟨_, q, _⟩ := hS.obj _ _ _ hs; exact Heap.lt_size q
    refine wpAny_pyNext_enum_itemD D he st0 (hgo hg) hne (by simpa using ⟨hne, hf2⟩) fun u h' tk hP' ho hs' hT hsz hk => ?_
    obtain ⟨x, ru, hx⟩ := hit u hP'
    refine ⟨_, rfl, wpAny_letOwnedTupleGo_enum (s := { s with heap := h', toks := tk + 1 }) ho fun h'' he' sb => ?_⟩
    have hT2 : h''.get? s.heap.objs.size = some { cls := .type "tuple", data := .seq #[.int i tk, u] } := (sb.2 _ (Nat.ne_of_gt hel)).trans hT
    have new : ObjOk X.prog X.w (upd H s.heap.objs.size (.tup [.int (i : Nat), x])) h'' s.heap.objs.size (.tup [.int (i : Nat), x]) :=
      ⟨by show 2 ≤ sizeLine; decide, [.int i tk, u], .cons ⟨_, rfl⟩ (.cons ru .nil), ⟨_, hT2, rfl, _, rfl⟩⟩
    have I1 : Inv X pins σ (upd H s.heap.objs.size (.tup [.int (i : Nat), x])) { s with heap := h'', toks := tk + 1 } :=
      I.turnedNew (ch := [e, it]) (fun b ob hb q => (sb.2 b (fun z => hb (by simp [z]))).trans (hk b ob (fun z => hb (by simp [z])) (fun z => hb (by simp [z])) q)) hf (Nat.le_refl _) new
    refine ⟨.ref s.heap.objs.size, _, I1, rfl, ⟨_, x, rfl, I.hok.fresh (Nat.le_refl _), rfl, hx⟩, ⟨⟨u, ?_⟩, hS.keep _ _ _ _ (st1 _ hs') fun o q => (sb.2 it (Ne.symm hne)).trans q⟩, fun b hb => ?_⟩
    · have e1 : ((i + 1 : Nat) : Int) = (i : Int) + 1 := by omega
      rw [e1]; exact he'
    · have hb' : b < s.heap.objs.size := by
        have e' : b = e ∨ b = it := by simpa using hb
        rcases e' with z | z
        · rw [z]; exact hel
        · rw [z]; exact hil
      rw [upd_ne (Nat.ne_of_lt hb')]
      exact (hf b hb).1
  done := by
    intro X hP hw hK hc i pins s σ H E I hf st hg
    obtain ⟨⟨old, he⟩, hs⟩ := st
    obtain ⟨n, Pv, St, D, st0, st1, _, hstop, hit⟩ := hS.draws X hP hw hK X.A.in1 (I.ok.hd hc) pins σ s H it i hf1 I hs (.inr hg)
    obtain rfl := hstop hg
    obtain ⟨f0, f1, f2, f3, f4, f5⟩ := hf it (by simp)
    exact wpAny_pyNext_enum_endD D he st0 fun h' eb => ⟨rfl, I.turned (t' := s.toks) (fun b o hb q => eb b o hb q) f0 f1 f3 f4 f5⟩
  self := fun A i s Q E st h => let ⟨⟨_, he⟩, _⟩ := st; wpAny_pyIter_enum he h
def iEnS (P : Program) (w : World) (K : PySem.W.Frag) (ta : TA) : TI := fun σ H R => ta σ H fun vs H1 => ∃ v S, vs = [v] ∧ SrcAt P w K S v H1 ∧ R (ItE S) H1
theorem pi_enS {X : Cx} {e : Expr} {ta : TA} {p pos : Pos} (hg : Gl X "enumerate") (hm : X.mg "enumerate" = none) (ha : PA X [e] ta) (hs : starEach [e] X.env = [(false, eval e X.env)] := by rfl) :
    PI X (.Tuple elts kk tpos) (.Call (.Name "enumerate" p) [e] [] pos) (iEnS X.prog X.w X.K ta) := by
  refine ⟨fun pins s σ H R I h => ?_⟩
  refine Call_ (ld_blt I hg hm boot_enumerate (PyProof.Rows.callWith_type1 (thn (ha.run pos pins s σ H _ I h) fun us s1 ⟨vs, H1, I1, r1, q1⟩ => ?_) hs rfl))
  obtain ⟨v, S, ex, hS, q⟩ := q1
  subst ex
  obtain ⟨u, rfl, r⟩ : ∃ u, us = [u] ∧ L2.RelV v u := by
    cases r1 with
    | cons r rr => cases rr; exact ⟨_, rfl, r⟩
  obtain ⟨o, Hc, B, hB, hst, hlt⟩ := hS.beg X rfl rfl rfl pins σ s1 u I1 r
  refine enum1_begins B hB fun h' he hit hsz hk => wpAny_pyIter_enum he ?_
  have I2 : Inv X pins σ H1 { s1 with heap := h' } := I1.kept (t' := s1.toks) hk
  refine ⟨s1.heap.objs.size + 1, [s1.heap.objs.size + 1, s1.heap.objs.size], _, _, H1, rfl, I2, turn_enumS hS.ok (it := s1.heap.objs.size) (Nat.succ_ne_self _) (fun b hb => Nat.ne_of_lt (hlt b hb)) (fun hb => Nat.lt_irrefl _ (Nat.lt_of_succ_lt (hlt _ hb))), ⟨⟨.none, he⟩, hst _ _ hit⟩, fun b hb => ?_, q⟩
  have e' : b = s1.heap.objs.size + 1 ∨ b = s1.heap.objs.size := by simpa using hb
  have hle : s1.heap.objs.size ≤ b := by
    rcases e' with z | z
    · rw [z]; exact Nat.le_add_right _ _
    · rw [z]; exact Nat.le_refl _
  exact I1.fpOk hle (I1.hok.fresh hle)
/-! zip -/
def ItZ (S1 S2 : Src) : It :=
  ⟨fun i H => S1.go i H ∧ S2.go i H, fun i H v H' => ∃ T x y, v = .ref T ∧ H T = none ∧ H' = upd H T (.tup [x, y]) ∧ S1.it i H x ∧ S2.it i H y,
    fun i H => (S1.stop i H ∧ (S2.go i H ∨ S2.stop i H)) ∨ ((S1.go i H ∨ S1.stop i H) ∧ S2.stop i H)⟩
theorem turn_zipS {S1 S2 : Src} (hS1 : SrcOk P w K S1) (hS2 : SrcOk P w K S2) {z TI TO i1 i2 : Addr} (D : ZipSep2 z TI TO i1 i2 (i1 :: S1.fpr) (i2 :: S2.fpr)) (hf1 : ∀ b ∈ S1.fpr, b ≠ i1) (hf2 : ∀ b ∈ S2.fpr, b ≠ i2) :
    Turn P w K (.Tuple elts kk tpos) (ItZ S1 S2) [z, TI, TO, i1, i2] z (fun i h => IsZip h z TI TO .none ∧ IsTupOf2 h TI (.ref i1) (.ref i2) ∧ (∃ x y, IsTupOf2 h TO x y) ∧ S1.st i1 i h ∧ S2.st i2 i h) where
  mem := by simp
  obj := fun i h st c hc => by
    obtain ⟨hz, hTI, ⟨x, y, hTO⟩, s1, s2⟩ := st
    have e' : c = z ∨ c = TI ∨ c = TO ∨ c = i1 ∨ c = i2 := by simpa using hc
    rcases e' with q | q | q | q | q
    · rw [q]; exact ⟨_, hz, fun v q => nomatch q⟩
    · rw [q]; exact ⟨_, hTI, fun v q => nomatch q⟩
    · rw [q]; exact ⟨_, hTO, fun v q => nomatch q⟩
    · rw [q]; exact hS1.obj _ _ _ s1
    · rw [q]; exact hS2.obj _ _ _ s2
  keep := fun i h h' st k => by
    obtain ⟨hz, hTI, ⟨x, y, hTO⟩, h1, h2⟩ := st
    exact ⟨k z (by simp) _ hz, k TI (by simp) _ hTI, ⟨x, y, k TO (by simp) _ hTO⟩, hS1.keep _ _ _ _ h1 fun o q => k i1 (by simp) o q, hS2.keep _ _ _ _ h2 fun o q => k i2 (by simp) o q⟩
  item := by
    intro X hP hw hK hc i pins s σ H E I hf st hg
    obtain ⟨hz, hTI, ⟨x0, y0, hTO⟩, h1, h2⟩ := st
    obtain ⟨n1, P1, St1, D1, a1, b1, g1, _, t1⟩ := hS1.draws X hP hw hK X.A.in1 (I.ok.hd hc) pins σ s H i1 i hf1 I h1 (.inl hg.1)
    obtain ⟨n2, P2, St2, D2, a2, b2, g2, _, t2⟩ := hS2.draws X hP hw hK X.A.in1 (I.ok.hd hc) pins σ s H i2 i hf2 I h2 (.inl hg.2)
    have hzl : z < s.heap.objs.size := Heap.lt_size hz
    refine wpAny_pyNext_zipD2_item D D1 D2 hz hTI hTO a1 a2 (g1 hg.1) (g2 hg.2) fun u u2 h' tk p1 p2 z' TO' c1 c2 hT hsz hk => ?_
    obtain ⟨x, ru, hx⟩ := t1 u p1
    obtain ⟨y, ru2, hy⟩ := t2 u2 p2
    refine ⟨_, rfl, wpAny_letOwnedTupleGo_zip (s := { s with heap := h', toks := tk }) z' fun h'' z'' sb => ?_⟩
    have hT2 : h''.get? s.heap.objs.size = some { cls := .type "tuple", data := .seq #[u, u2] } := (sb.2 _ (Nat.ne_of_gt hzl)).trans hT
    have new : ObjOk X.prog X.w (upd H s.heap.objs.size (.tup [x, y])) h'' s.heap.objs.size (.tup [x, y]) :=
      ⟨by show 2 ≤ sizeLine; decide, [u, u2], .cons ru (.cons ru2 .nil), ⟨_, hT2, rfl, _, rfl⟩⟩
    have I1 : Inv X pins σ (upd H s.heap.objs.size (.tup [x, y])) { s with heap := h'', toks := tk } :=
      I.turnedNew (ch := [z, TI, TO, i1, i2]) (fun c o hb q => (sb.2 c (fun q' => hb (by simp [q']))).trans (hk c o (fun q' => hb (by simp [q'])) (fun q' => hb (by simp [q'])) (fun q' => hb (by simp [q'])) (fun q' => hb (by simp [q'])) q)) hf (Nat.le_refl _) new
    refine ⟨.ref s.heap.objs.size, _, I1, rfl, ⟨_, x, y, rfl, I.hok.fresh (Nat.le_refl _), rfl, hx, hy⟩, ⟨z'', ?_, ⟨u, u2, ?_⟩, ?_, ?_⟩, fun c hcm => ?_⟩
    · exact (sb.2 _ D.TIz).trans (hk _ _ D.TIz D.TITO D.TIi1 D.TIi2 hTI)
    · exact (sb.2 _ D.TOz).trans TO'
    · exact hS1.keep _ _ _ _ (b1 _ c1) fun o q => (sb.2 _ (Ne.symm D.zi1)).trans q
    · exact hS2.keep _ _ _ _ (b2 _ c2) fun o q => (sb.2 _ (Ne.symm D.zi2)).trans q
    · have hlt : c < s.heap.objs.size := by
        have e' : c = z ∨ c = TI ∨ c = TO ∨ c = i1 ∨ c = i2 := by simpa using hcm
        rcases e' with q | q | q | q | q
        · rw [q]; exact hzl
        · rw [q]; exact Heap.lt_size hTI
        · rw [q]; exact Heap.lt_size hTO
        · rw [q]; obtain ⟨_, e1, _⟩ := hS1.obj _ _ _ h1; exact Heap.lt_size e1
        · rw [q]; obtain ⟨_, e2, _⟩ := hS2.obj _ _ _ h2; exact Heap.lt_size e2
      rw [upd_ne (Nat.ne_of_lt hlt)]
      exact (hf c hcm).1
  done := by
    intro X hP hw hK hc i pins s σ H E I hf st hg
    obtain ⟨hz, hTI, ⟨x0, y0, hTO⟩, h1, h2⟩ := st
    have hg1 : S1.go i H ∨ S1.stop i H := by
      rcases hg with ⟨q, _⟩ | ⟨q, _⟩
      · exact .inr q
      · exact q
    have hg2 : S2.go i H ∨ S2.stop i H := by
      rcases hg with ⟨_, q⟩ | ⟨_, q⟩
      · exact q
      · exact .inr q
    obtain ⟨n1, P1, St1, D1, a1, b1, g1, e1, t1⟩ := hS1.draws X hP hw hK X.A.in1 (I.ok.hd hc) pins σ s H i1 i hf1 I h1 hg1
    obtain ⟨n2, P2, St2, D2, a2, b2, g2, e2, t2⟩ := hS2.draws X hP hw hK X.A.in1 (I.ok.hd hc) pins σ s H i2 i hf2 I h2 hg2
    have l1 : i ≤ n1 := by
      rcases hg1 with q | q
      · exact Nat.le_of_lt (g1 q)
      · exact Nat.le_of_eq (e1 q)
    have l2 : i ≤ n2 := by
      rcases hg2 with q | q
      · exact Nat.le_of_lt (g2 q)
      · exact Nat.le_of_eq (e2 q)
    have he : i = n1 ∨ i = n2 := by
      rcases hg with ⟨q, _⟩ | ⟨_, q⟩
      · exact .inl (e1 q)
      · exact .inr (e2 q)
    exact wpAny_pyNext_zipD2_end D D1 D2 hz hTI hTO a1 a2 l1 l2 he fun h' tk hk => ⟨rfl, I.turnedL (t' := tk) (ch := [z, TI, TO, i1, i2]) (fun c o hb q =>
      hk c o (fun q' => hb (by simp [q'])) (fun q' => hb (by simp [q'])) (fun q' => hb (by simp [q'])) (fun q' => hb (by simp [q'])) q) hf⟩
  self := fun A i s Q E st h => wpAny_pyIter_zip st.1 h
def iZpS (P : Program) (w : World) (K : PySem.W.Frag) (ta : TA) : TI := fun σ H R => ta σ H fun vs H1 => ∃ v1 v2 S1 S2, vs = [v1, v2] ∧ SrcAt P w K S1 v1 H1 ∧ SrcAt P w K S2 v2 H1 ∧ R (ItZ S1 S2) H1
theorem pi_zpS {X : Cx} {e e2 : Expr} {ta : TA} {p pos : Pos} (hg : Gl X "zip") (hm : X.mg "zip" = none) (ha : PA X [e, e2] ta)
    (hs : starEach [e, e2] X.env = (false, eval e X.env) :: starEach [e2] X.env := by rfl) (hpl : (backTo pos (starEach [e2] X.env)).any (·.1) = false := by rfl) :
    PI X (.Tuple elts kk tpos) (.Call (.Name "zip" p) [e, e2] [] pos) (iZpS X.prog X.w X.K ta) := by
  refine ⟨fun pins s σ H R I h => ?_⟩
  refine Call_ (ld_blt I hg hm PyProof.Rows.boot_zip (PyProof.Rows.callWith_type1 (thn (ha.run pos pins s σ H _ I h) fun us s1 ⟨vs, H1, I1, r1, q1⟩ => ?_) hs hpl))
  obtain ⟨v1, v2, S1, S2, ex, hS1, hS2, q⟩ := q1
  subst ex
  obtain ⟨u1, u2, rfl, ra, rb⟩ : ∃ u1 u2, us = [u1, u2] ∧ L2.RelV v1 u1 ∧ L2.RelV v2 u2 := by
    cases r1 with
    | cons r rr => cases rr with
      | cons r' rr => cases rr; exact ⟨_, _, rfl, r, r'⟩
  obtain ⟨o1, Hc1, B1, hB1, hst1, hlt1⟩ := hS1.beg X rfl rfl rfl pins σ s1 u1 I1 ra
  obtain ⟨o2, Hc2, B2, hB2, hst2, hlt2⟩ := hS2.beg X rfl rfl rfl pins σ s1 u2 I1 rb
  refine zip_begins2 B1 B2 hB1 hB2 fun h' hz hTI hTO hi1 hi2 hsz hk => wpAny_pyIter_zip hz ?_
  have I2 : Inv X pins σ H1 { s1 with heap := h' } := I1.kept (t' := s1.toks) hk
  refine ⟨s1.heap.objs.size + 4, [s1.heap.objs.size + 4, s1.heap.objs.size + 2, s1.heap.objs.size + 3, s1.heap.objs.size, s1.heap.objs.size + 1], _, _, H1, rfl, I2,
    turn_zipS hS1.ok hS2.ok (zip_sep2 hlt1 hlt2) (fun b hb => Nat.ne_of_lt (hlt1 b hb)) (fun b hb => Nat.ne_of_lt (Nat.lt_of_lt_of_le (hlt2 b hb) (Nat.le_add_right _ _))), ⟨hz, hTI, ⟨_, _, hTO⟩, hst1 _ _ hi1, hst2 _ _ hi2⟩, fun c hcm => ?_, q⟩
  have e' : c = s1.heap.objs.size + 4 ∨ c = s1.heap.objs.size + 2 ∨ c = s1.heap.objs.size + 3 ∨ c = s1.heap.objs.size ∨ c = s1.heap.objs.size + 1 := by simpa using hcm
  have hle : s1.heap.objs.size ≤ c := by
    rcases e' with z | z | z | z | z <;> rw [z] <;> first | exact Nat.le_refl _ | exact Nat.le_add_right _ _
  exact I1.fpOk hle (I1.hok.fresh hle)
end
end Dl

set_option Elab.async false
set_option linter.all false
set_option maxRecDepth 100000
set_option maxHeartbeats 2000000
/-! Dl: Q: enumerate and zip, in data. -/
namespace Dl
open PySem PySem.Spec PyProof.Rows L2
open Builtin
section
variable {P : Program} {w : World} {K : PySem.W.Frag}
theorem vals_back {xs : List V} {us : List Value} {i : Nat} {u : Value} (r : Vals xs us) (h : us[i]? = some u) : ∃ x, xs[i]? = some x ∧ L2.RelV x u := by
  have hl := r.length
  obtain ⟨hi, _⟩ := List.getElem?_eq_some_iff.mp h
  have hx : xs[i]? = some (xs[i]'(by omega)) := List.getElem?_eq_getElem (by omega)
  obtain ⟨u', hu', ru⟩ := r.get hx
  rw [h] at hu'
  cases hu'
  exact ⟨_, hx, ru⟩
def srcT (x : Str) : Src := ⟨[], fun it i h => ∃ t, h.IsStrIter it (strIterType x) x t i, fun i _ => i < x.cps.size, fun i _ v => ∃ c, x.cps[i]? = some c ∧ v = .str ⟨#[c]⟩, fun i _ => i = x.cps.size⟩
theorem srcT_ok {x : Str} : SrcOk P w K (srcT x) where
  obj := fun it i h ⟨t, o, ho, hc, hd⟩ => ⟨o, ho, fun v q => by rw [hd] at q; cases q⟩
  keep := fun it i h h' ⟨t, o, ho, q⟩ k => ⟨t, o, k o ho, q⟩
  draws := fun X hP hw hK A hh pins σ s H it i hf I ⟨t, ht⟩ hg => by
    refine ⟨_, _, _, Draws.text hh it x t, ht, fun h' q => ⟨t, q⟩, fun q => q, fun q => q, fun u ⟨c, tk, hc, hu⟩ => ⟨.str ⟨#[c]⟩, ⟨tk, hu⟩, c, hc, rfl⟩⟩
theorem srcT_at {x : Str} {H : Hp} : SrcAt P w K (srcT x) (.str x) H where
  ok := srcT_ok
  beg := fun X hP hw hK pins σ s u I r => by
    obtain ⟨t, rfl⟩ := (show ∃ t, u = Value.str x t from r)
    exact ⟨_, _, begins_text x t, trivial, fun it h e => ⟨t, _, e, rfl, rfl⟩, fun b hb => by cases hb⟩
def srcU (K : PySem.W.Frag) (a : Addr) : Src := ⟨[a], fun it i h => h.IsTupleIter it a i, fun i H => ∃ xs x, SqT K H a xs ∧ xs[i]? = some x, fun i H v => ∀ xs, SqT K H a xs → xs[i]? = some v, fun i H => ∃ xs, SqT K H a xs ∧ xs.length = i⟩
theorem srcU_ok {a : Addr} : SrcOk P w K (srcU K a) where
  obj := fun it i h ⟨o, ho, hc, hd⟩ => ⟨o, ho, fun v q => by rw [hd] at q; cases q⟩
  keep := fun it i h h' ht k => ht.at k
  draws := fun X hP hw hK A hh pins σ s H it i hf I ht hg => by
    subst hP hw hK
    obtain ⟨xs, hq⟩ : ∃ xs, SqT X.K H a xs := by
      rcases hg with ⟨xs, _, q, _⟩ | ⟨xs, q, _⟩
      · exact ⟨xs, q⟩
      · exact ⟨xs, q⟩
    obtain ⟨its, rv, p, _⟩ := I.tuple hq
    have hl := rv.length
    refine ⟨_, _, _, Draws.tuple hh it a (hf a List.mem_cons_self) its.toArray, ⟨ht, p⟩, fun h' q => q.1, fun ⟨ys, y, q, e⟩ => ?_, fun ⟨ys, q, e⟩ => ?_, fun u hu => ?_⟩
    · rw [I.tuple_inj q hq] at e
      have := (List.getElem?_eq_some_iff.mp e).1
      simp; omega
    · rw [I.tuple_inj q hq] at e
      simp; omega
    · obtain ⟨x, hx, rx⟩ := vals_back rv (show its[i]? = some u by simpa using hu)
      exact ⟨x, rx, fun ys q => by rw [I.tuple_inj q hq]; exact hx⟩
theorem srcU_at {a : Addr} {H : Hp} {xs : List V} (hq : SqT K H a xs) : SrcAt P w K (srcU K a) (.ref a) H where
  ok := srcU_ok
  beg := fun X hP hw hK pins σ s u I r => by
    subst hP hw hK
    cases (show u = Value.ref a from r)
    obtain ⟨its, rv, p, _⟩ := I.tuple hq
    obtain ⟨o, ho, _⟩ := id p
    exact ⟨_, _, begins_tuple a its.toArray, p, fun it h e => ⟨_, e, rfl, rfl⟩, fun b hb => by
      rw [List.mem_singleton.mp hb]; exact Heap.lt_size ho⟩
def srcL (K : PySem.W.Frag) (a : Addr) : Src := ⟨[a], fun it i h => h.IsListIter it a i, fun i H => ∃ xs x, SqL K H a xs ∧ xs[i]? = some x, fun i H v => ∀ xs, SqL K H a xs → xs[i]? = some v, fun i H => ∃ xs, SqL K H a xs ∧ xs.length = i⟩
theorem srcL_ok {a : Addr} : SrcOk P w K (srcL K a) where
  obj := fun it i h ⟨o, ho, hc, hd⟩ => ⟨o, ho, fun v q => by rw [hd] at q; cases q⟩
  keep := fun it i h h' ht k => ht.at k
  draws := fun X hP hw hK A hh pins σ s H it i hf I ht hg => by
    subst hP hw hK
    obtain ⟨xs, hq⟩ : ∃ xs, SqL X.K H a xs := by
      rcases hg with ⟨xs, _, q, _⟩ | ⟨xs, q, _⟩
      · exact ⟨xs, q⟩
      · exact ⟨xs, q⟩
    obtain ⟨its, rv, p, _⟩ := I.list hq
    have hl := rv.length
    refine ⟨_, _, _, Draws.list hh it a (hf a List.mem_cons_self) its.toArray, ⟨ht, p.isList⟩, fun h' q => q.1, fun ⟨ys, y, q, e⟩ => ?_, fun ⟨ys, q, e⟩ => ?_, fun u hu => ?_⟩
    · rw [I.list_inj q hq] at e
      have := (List.getElem?_eq_some_iff.mp e).1
      simp; omega
    · rw [I.list_inj q hq] at e
      simp; omega
    · obtain ⟨x, hx, rx⟩ := vals_back rv (show its[i]? = some u by simpa using hu)
      exact ⟨x, rx, fun ys q => by rw [I.list_inj q hq]; exact hx⟩
theorem srcL_at {a : Addr} {H : Hp} {xs : List V} (hq : SqL K H a xs) : SrcAt P w K (srcL K a) (.ref a) H where
  ok := srcL_ok
  beg := fun X hP hw hK pins σ s u I r => by
    subst hP hw hK
    cases (show u = Value.ref a from r)
    obtain ⟨its, rv, p, _⟩ := I.list hq
    have p' := p.isList
    obtain ⟨o, ho, _⟩ := id p'
    exact ⟨_, _, begins_list a its.toArray, p', fun it h e => ⟨_, e, rfl, rfl⟩, fun b hb => by
      rw [List.mem_singleton.mp hb]; exact Heap.lt_size ho⟩
def SrcIs (P : Program) (w : World) (K : PySem.W.Frag) (F : Hp) (v : V) (xs : List D) : Prop := ∃ S, ∀ F2 H2 M, Same F F2 → Sit K F2 M H2 → SrcAt P w K S v H2 ∧ (∀ i x, xs[i]? = some x → S.go i H2 ∧ ∀ v, S.it i H2 v → Rep K F2 x v) ∧ S.stop xs.length H2
end
/-- what may be gone through -/
class IterD (d : D) (xs : outParam (List D)) : Prop where
  src : ∀ P w K F v, Rep K F d v → SrcIs P w K F v xs
instance (s : List Nat) : IterD (.str s) (s.map fun k => .str [k]) := ⟨fun P w K F v r => by
  rw [rep_str.mp r]
  refine ⟨srcT (T s), fun F2 H2 M hs S2 => ⟨srcT_at, fun i x hx => ?_, by simp [srcT]⟩⟩
  rw [List.getElem?_map] at hx
  obtain ⟨k, hk, rfl⟩ := Option.map_eq_some_iff.mp hx
  have hi : i < s.length := (List.getElem?_eq_some_iff.mp hk).1
  refine ⟨by show i < s.toArray.size; simpa using hi, fun v ⟨c, hc, ev⟩ => ?_⟩
  have ec : c = k := by
    have h1 : s.toArray[i]? = some c := hc
    have h2 : s[i]? = some c := by simpa using h1
    rw [hk] at h2
    exact (Option.some.inj h2).symm
  subst ec
  exact rep_str.mpr ev⟩
instance (xs : List D) : IterD (.tup xs) xs := ⟨fun P w K F v r => by
  obtain ⟨a, vs, rfl, h, rs⟩ := rep_tup.mp r
  refine ⟨srcU K a, fun F2 H2 M hs S2 => ?_⟩
  have h2 : SqT K H2 a vs := sqt_up S2 (sqt_mono hs h)
  refine ⟨srcU_at h2, fun i x hx => ?_, ⟨vs, h2, rs.len⟩⟩
  obtain ⟨v, hv, rv⟩ := (rs.mono hs).get hx
  refine ⟨⟨vs, v, h2, hv⟩, fun v' hv' => ?_⟩
  have := hv' vs h2
  rw [hv] at this
  cases this
  exact rv⟩
instance (xs : List D) : IterD (.lst xs) xs := ⟨fun P w K F v r => by
  obtain ⟨a, vs, rfl, h, rs⟩ := rep_lstS r
  refine ⟨srcL K a, fun F2 H2 M hs S2 => ?_⟩
  have h2 : SqL K H2 a vs := sql_up S2 (hs.seq h)
  refine ⟨srcL_at h2, fun i x hx => ?_, ⟨vs, h2, rs.len⟩⟩
  obtain ⟨v, hv, rv⟩ := (rs.mono hs).get hx
  refine ⟨⟨vs, v, h2, hv⟩, fun v' hv' => ?_⟩
  have := hv' vs h2
  rw [hv] at this
  cases this
  exact rv⟩
section
variable {c : Cfg} {ρ ρ' : Env} {M M1 M2 M' : Mem} {pos p2 tpos : Pos} {e a b tg : Expr} {elts : List Expr} {d x y z : D} {xs ys ds : List D} {kk : Nat}
def enumD (xs : List D) : List D := xs.mapIdx fun i x => .tup [.int (i : Nat), x]
theorem pin_enum (h : PV c e ρ M d M1) (hd : IterD d xs) (hf : BltF c.K c.mg "enumerate") (hg : GlC c "enumerate" := by rfl) (hs : ∀ env : PySem.Env, starEach [e] env = [(false, eval e env)] := by intro _; rfl) :
    PIn c (.Tuple elts kk tpos) (.Call (.Name "enumerate" p2) [e] [] pos) ρ M (enumD xs) M1 := .mk fun hE => by
  obtain ⟨t, a1, a2⟩ := h.out hE
  refine ⟨iEnS c.P c.w c.K (tCons t tNil), fun X hX => by rw [← hX.P, ← hX.w, ← hX.K]; exact pi_enS (hg.gl hX) (by rw [hX.mg]; exact hf.no) (pa_cons (a1 X hX) pa_nil (by rw [hs]; rfl)) (hs _), fun F σ H S L R q => a2 F σ H S L _ fun F1 H1 v x M1' ⟨e1, e2⟩ S1 g1 p1 => ?_⟩
  subst e1 e2
  obtain ⟨Sr, hSr⟩ := hd.src c.P c.w c.K F1 v p1
  refine ⟨v, Sr, rfl, (hSr F1 H1 _ (Same.refl _) S1).1, q F1 H1 _ S1 g1 fun F2 H2 M2 hs2 S2 _ => ?_⟩
  obtain ⟨_, k1, k2⟩ := hSr F2 H2 M2 hs2 S2
  refine ⟨fun i x hx => ?_, by show Sr.stop _ _; simpa [enumD] using k2⟩
  unfold enumD at hx
  rw [List.getElem?_mapIdx] at hx
  obtain ⟨y, hy, rfl⟩ := Option.map_eq_some_iff.mp hx
  obtain ⟨g, r⟩ := k1 i y hy
  refine ⟨g, fun v' H3 ⟨T, x', e3, hT, e4, hi⟩ => ?_⟩
  subst e3 e4
  obtain ⟨S3, g3⟩ := S2.new (o := .tup [.int (i : Nat), x']) hT
  exact ⟨_, rep_tup.mpr ⟨T, _, rfl, SqT.of upd_same, reps_cons.mpr ⟨_, _, rfl, rep_int.mpr rfl, reps_cons.mpr ⟨_, _, rfl, (r x' hi).mono g3.ff, reps_nil.mpr rfl⟩⟩⟩, S3, g3⟩
def zipD (xs ys : List D) : List D := List.zipWith (fun x y => .tup [x, y]) xs ys
theorem pin_zip (h : PV c a ρ M x M1) (h2 : PV c b ρ M1 y M2) (hx : IterD x xs) (hy : IterD y ys) (hf : BltF c.K c.mg "zip") (hg : GlC c "zip" := by rfl)
    (hs : ∀ env : PySem.Env, starEach [a, b] env = (false, eval a env) :: starEach [b] env := by intro _; rfl) (hs2 : ∀ env : PySem.Env, starEach [b] env = (false, eval b env) :: starEach [] env := by intro _; rfl) (hpl : ∀ env : PySem.Env, (backTo pos (starEach [b] env)).any (·.1) = false := by intro _; rfl) :
    PIn c (.Tuple elts kk tpos) (.Call (.Name "zip" p2) [a, b] [] pos) ρ M (zipD xs ys) M2 := .mk fun hE => by
  obtain ⟨t, a1, a2⟩ := (pas2 h h2 hs hs2).out hE
  refine ⟨iZpS c.P c.w c.K t, fun X hX => by rw [← hX.P, ← hX.w, ← hX.K]; exact pi_zpS (hg.gl hX) (by rw [hX.mg]; exact hf.no) (a1 X hX) (hs _) (hpl _), fun F σ H S L R q => a2 F σ H S L _ fun F1 H1 vs ds M1' ⟨e1, e2⟩ S1 g1 p1 => ?_⟩
  subst e1 e2
  obtain ⟨v1, v2, rfl, r1, r2⟩ := reps2 p1
  obtain ⟨Sr1, hS1⟩ := hx.src c.P c.w c.K F1 v1 r1
  obtain ⟨Sr2, hS2⟩ := hy.src c.P c.w c.K F1 v2 r2
  refine ⟨v1, v2, Sr1, Sr2, rfl, (hS1 F1 H1 _ (Same.refl _) S1).1, (hS2 F1 H1 _ (Same.refl _) S1).1, q F1 H1 _ S1 g1 fun F2 H2 M2 hs2 S2 _ => ?_⟩
  obtain ⟨_, k1, l1⟩ := hS1 F2 H2 M2 hs2 S2
  obtain ⟨_, k2, l2⟩ := hS2 F2 H2 M2 hs2 S2
  refine ⟨fun i x hx => ?_, ?_⟩
  · unfold zipD at hx
    rw [List.getElem?_zipWith] at hx
    cases hx1 : xs[i]? with
    | none => rw [hx1] at hx; cases hx
    | some x1 =>
      cases hy1 : ys[i]? with
      | none => rw [hx1, hy1] at hx; cases hx
      | some y1 =>
        rw [hx1, hy1] at hx
        cases hx
        obtain ⟨ga, ra⟩ := k1 i x1 hx1
        obtain ⟨gb, rb⟩ := k2 i y1 hy1
        refine ⟨⟨ga, gb⟩, fun v' H3 ⟨T, x', y', e3, hT, e4, hi, hj⟩ => ?_⟩
        subst e3 e4
        obtain ⟨S3, g3⟩ := S2.new (o := .tup [x', y']) hT
        exact ⟨_, rep_tup.mpr ⟨T, _, rfl, SqT.of upd_same, reps_cons.mpr ⟨_, _, rfl, (ra x' hi).mono g3.ff, reps_cons.mpr ⟨_, _, rfl, (rb y' hj).mono g3.ff, reps_nil.mpr rfl⟩⟩⟩, S3, g3⟩
  · have hl : (zipD xs ys).length = min xs.length ys.length := by simp [zipD]
    rw [hl]
    rcases Nat.lt_trichotomy xs.length ys.length with hh | hh | hh
    · rw [Nat.min_eq_left (Nat.le_of_lt hh)]
      exact .inl ⟨l1, .inl (k2 _ _ (List.getElem?_eq_getElem hh)).1⟩
    · rw [Nat.min_eq_left (Nat.le_of_eq hh)]
      exact .inl ⟨l1, .inr (by rw [hh]; exact l2)⟩
    · rw [Nat.min_eq_right (Nat.le_of_lt hh)]
      exact .inr ⟨.inl (k1 _ _ (List.getElem?_eq_getElem hh)).1, l2⟩
end
end Dl

set_option Elab.async false
set_option linter.all false
set_option maxRecDepth 100000
set_option maxHeartbeats 4000000
/-! Dl: S: len(set(text)) of a plain text whose signs are all unlike. -/
namespace Dl
open PySem PySem.Spec PyProof.Rows L2
open Builtin
theorem sub_str_set : isSubtype (.type "str") (.type "set") = pure false := by rw [isSubtype_type]; kernel_rfl
theorem sub_str_frozenset : isSubtype (.type "str") (.type "frozenset") = pure false := by rw [isSubtype_type]; kernel_rfl
section
variable {prog : Program} {w : World} {A : Around} {E : Value → Shared → Prop} {s : Shared}
theorem runD_ok : ∀ (cs : List Nat) (tk : Tok) (D : Froz.SD) (l : List Str), Froz.TxOk prog w D l → ∃ l', l'.length = l.length + cs.length ∧ Froz.TxOk prog w (Froz.runD w cs tk D) l'
  | [], tk, D, l, h => ⟨l, by simp, h⟩
  | c :: r, tk, D, l, h => by
    obtain ⟨l', e, q⟩ := runD_ok r (tk + 2) _ _ (Froz.add_ok (k := Froz.sing c) tk h)
    exact ⟨l', by rw [e]; simp; omega, q⟩
theorem call_set_text {x : Str} {u : Tok} {Q : Value → Shared → Prop}
    (hh : A.handled = none) (hx : x.cps.all (· < 128) = true) (hnd : x.cps.toList.Nodup) (hb : x.cps.size < scanBound)
    (h : ∀ (h' : Heap) (tk : Nat) (D : Froz.SD) (l : List Str), h'.get? s.heap.objs.size = some (Froz.sObj "set" D) → Froz.TxOk prog w D l → l.length = x.cps.size →
      (∀ b o, b < s.heap.objs.size → s.heap.get? b = some o → h'.get? b = some o) → Q (.ref s.heap.objs.size) { s with heap := h', toks := tk }) :
    wpAny (model prog w) A (call (.type "set") [.str x u]) Q E s := by
  obtain ⟨c, tl, hmro⟩ := F.called_set.mro
  have hmade := F.called_set.made
  have hsub := F.called_set.sub
  refine wpAny_call (codeAny_of_tree ?_)
  show wpAny _ _ (callAny (.type "set") _) _ _ _
  refine wpAny_pure ⟨Code.quiet_builtin _ (by decide +kernel), codeAny_builtin F.entry_type_call ?_⟩
  rw [Around.under_plain (weight_type_call_type "set" [.str x u] []) rfl]
  have h1 := F.called_set.notType
  have h2 := F.called_set.canCreate
  have hct := F.typeCall_set_1 (.str x u)
  repeat (any_goals (first | assumption | wp_step))
  refine codeAny_mono (code_set_new_1 (.str x u) (E := E) (Q₁ := fun obj s₁ => ∃ led : Bool, obj = .ref s.heap.objs.size ∧ s₁ = { s with heap := s.heap.push { cls := .type "set", dict := none, data := .set #[] 0 (.fresh 0 0 led) } }) fun led => ⟨led, rfl, rfl⟩) fun r s₁ hr => ?_
  cases r with
  | error e => exact hr
  | ok fl =>
    cases fl with
    | ret obj =>
      obtain ⟨led, rfl, rfl⟩ := hr
      have hS : (s.heap.push { cls := .type "set", dict := none, data := .set #[] 0 (.fresh 0 0 led) }).get? s.heap.objs.size = some { cls := .type "set", dict := none, data := .set #[] 0 (.fresh 0 0 led) } := Heap.get?_push_size _ rfl
      have hT : Shared.TypeIs { s with heap := s.heap.push { cls := .type "set", dict := none, data := .set #[] 0 (.fresh 0 0 led) } } (.ref s.heap.objs.size) "set" := ⟨_, hS, rfl⟩
      have hli := F.called_set.init.lookup
      have hbi := F.called_set.init.bind (.ref s.heap.objs.size)
      repeat (any_goals (first | assumption | wp_step))
      refine codeAny_mono (codeAny_call_builtin (R := wants (fun r s₂ => r = .none ∧ ∃ h' tk, s₂ = { s with heap := h', toks := tk } ∧
          (∃ D l, h'.get? s.heap.objs.size = some (Froz.sObj "set" D) ∧ Froz.TxOk prog w D l ∧ l.length = x.cps.size) ∧
          (∀ b o, b < s.heap.objs.size → s.heap.get? b = some o → h'.get? b = some o)) E) F.called_set.init.plain F.entry_set_init (check_set_init_1 hT ?_)) fun r₂ s₂ hr₂ => ?_
      · have hsls := sub_str_set
        have hslf := sub_str_frozenset
        have hne : (Value.type "str" == Value.type "dict") = false := by decide
        unfold Builtin.«set.__init__» noKeywords Builtin.Frozenset.updateFrom
        generalize hPI : pyIter = PI
        wp_walk
        subst hPI
        refine wpAny_pyIter_ascii hx ?_
        refine wpAny_bind (wpAny_runValue ?_)
        have hh3 : A.in1.in1.handled = none := by simp [hh]
        have ez : (s.heap.push { cls := .type "set", dict := none, data := .set #[] 0 (.fresh 0 0 led) }).objs.size = s.heap.objs.size + 1 := Heap.size_push ..
        obtain ⟨l, hl, hok⟩ := runD_ok (prog := prog) (w := w) x.cps.toList s.toks (#[], 0, .fresh 0 0 led) [] (Froz.TxOk.nil rfl)
        refine Froz.code_update (a := s.heap.objs.size) (it := (s.heap.push { cls := .type "set", dict := none, data := .set #[] 0 (.fresh 0 0 led) }).objs.size) (by rw [ez]; exact Nat.ne_of_lt (Nat.lt_succ_self _)) (T := "set") (x := x) (u := u) hh3 x.cps.toList 0 (#[], 0, .fresh 0 0 led) [] _ rfl ?_ ?_ (Froz.TxOk.nil rfl) (fun _ _ => by simp) hnd (by simpa using hb) ?_
        · exact Heap.get?_push_of_some _ hS
        · exact Heap.get?_push_size (s.heap.push { cls := .type "set", dict := none, data := .set #[] 0 (.fresh 0 0 led) }) (o := { cls := .type "str_ascii_iterator", data := .fields #[.str x u, .int 0 0] }) rfl
        · show wpAny _ _ _ _ _ _
          refine wpAny_pure ?_
          show wpAny _ _ (ret Value.none) _ _ _
          refine wpAny_pure ⟨rfl, _, _, rfl, ⟨_, l, ?_, hok, by rw [hl]; simp⟩, fun b o hb e => ?_⟩
          · refine Heap.get?_push_of_some _ (Heap.get?_push_of_some _ ?_)
            refine (PySem.Heap.get?_update_of_ne _ (by rw [ez]; exact Nat.ne_of_gt (Nat.lt_succ_self _)) ?_)
            exact Froz.get_upd _ (Heap.get?_push_of_some _ hS) rfl
          · refine Heap.get?_push_of_some _ (Heap.get?_push_of_some _ ?_)
            refine (PySem.Heap.get?_update_of_ne _ (by rw [ez]; exact Nat.ne_of_gt (Nat.lt_succ_of_lt hb)) ?_)
            refine (PySem.Heap.get?_update_of_ne _ (Nat.ne_of_gt hb) ?_)
            exact Heap.get?_push_of_some _ (Heap.get?_push_of_some _ e)
      · cases r₂ with
        | error e => exact hr₂
        | ok fl₂ =>
          cases fl₂ with
          | ret r =>
            obtain ⟨rfl, h', tk, rfl, ⟨D, l, hS', hok, hl⟩, hk'⟩ := hr₂
            repeat (any_goals (first | assumption | wp_step))
            exact h _ _ D l hS' hok hl hk'
          | _ => exact hr₂.elim
    | _ => exact hr.elim
end
def tLenSetS (ta : TE) : TE := fun σ H Q => ta σ H fun x H1 => ∃ z : Str, x = .str z ∧ z.cps.all (· < 128) = true ∧ z.cps.toList.Nodup ∧ z.cps.size < 1000 ∧ Q (.int (z.cps.size : Nat)) H1
theorem pe_lenSetS {X : Cx} {a : Expr} {ta : TE} {p p2 q pos : Pos} (hg : Gl X "len") (hm : X.mg "len" = none) (hg2 : Gl X "set") (hm2 : X.mg "set" = none) (ha : PE X a ta) (hc : X.calm = true)
    (na : starEach [a] X.env = (false, eval a X.env) :: starEach [] X.env) : PE X (.Call (.Name "len" p) [.Call (.Name "set" p2) [a] [] q] [] pos) (tLenSetS ta) := by
  refine ⟨fun pins s σ H Q I h => ?_⟩
  refine Call_ (ld_blt I hg hm boot_len ?_)
  refine PyProof.Rows.callWith_builtin1 (PyProof.Rows.args_cons ?_ rfl) rfl rfl
  refine Call_ (ld_blt I hg2 hm2 boot_set ?_)
  refine PyProof.Rows.callWith_type1 (PyProof.Rows.args_cons (thn (ha.run pins s σ H _ I h) fun v s1 ⟨x, H1, I1, r1, q1⟩ => PyProof.Rows.args_nil ?_) na) na rfl
  obtain ⟨z, rfl, ha, hnd, hl, q1⟩ := q1
  obtain ⟨u, rfl⟩ := (show ∃ u, v = Value.str z u from r1)
  refine call_set_text (I1.ok.hd hc) ha hnd (by unfold scanBound; omega) fun h' tk D l hS hok hlen hk => ?_
  refine PyProof.Rows.args_nil ?_
  have I2 : Inv X pins σ H1 { s1 with heap := h', toks := tk } := I1.kept fun b o e => hk b o (Heap.lt_size e) e
  have hsz : D.1.size = z.cps.size := by rw [hok.sz, hlen]
  exact call_len_set hS ⟨rfl, rfl, rfl⟩ rfl hok.fit (by rw [hsz] <;> omega) ⟨.int (z.cps.size : Nat), H1, I2.tok _, ⟨_, by rw [hsz]⟩, q1⟩
section
variable {c : Cfg} {ρ : Env} {M M1 : Mem} {pos p2 p3 p4 : Pos} {e : Expr} {s : List Nat}
theorem pv_lenSetS (h : PV c e ρ M (.str s) M1) (ha : ∀ k ∈ s, k < 128) (hn : s.Nodup) (hl : s.length < 1000) (hf : BltF c.K c.mg "len") (hf2 : BltF c.K c.mg "set") (hg : GlC c "len" := by rfl) (hg2 : GlC c "set" := by rfl) (hs : Pl1 e := by intro _; rfl) :
    PV c (.Call (.Name "len" p2) [.Call (.Name "set" p3) [e] [] p4] [] pos) ρ M (.int s.length) M1 := .mk fun hE => by
  obtain ⟨t, a1, a2⟩ := h.out hE
  refine ⟨tLenSetS t, fun X hX => pe_lenSetS (hg.gl hX) (by rw [hX.mg]; exact hf.no) (hg2.gl hX) (by rw [hX.mg]; exact hf2.no) (a1 X hX) hX.calm (hs _), fun F σ H S L Q q => a2 F σ H S L _ fun F1 H1 v x M1' ⟨e1, e2⟩ S1 g1 p1 => ?_⟩
  subst e1 e2
  refine ⟨T s, rep_str.mp p1, by simpa using ha, by simpa using hn, by simpa using hl, ?_⟩
  have : ((T s).cps.size : Int) = s.length := by simp
  rw [this]
  exact q F1 H1 _ _ _ ⟨rfl, rfl⟩ S1 g1 (rep_int.mpr rfl)
end
end Dl

set_option Elab.async false
set_option linter.all false
set_option maxRecDepth 100000
set_option maxHeartbeats 4000000
/-! Dl: T: max(list of ints, default=d). -/
namespace Dl
open PySem PySem.Spec PyProof.Rows L2
open Builtin
section
variable {prog : Program} {w : World} {A : Around} {R : Result → Shared → Prop} {I : Addr} {fp wr : List Addr} {n : Nat} {ns : Nat → Int} {St : Nat → Heap → Prop} {d : Value}
/-- the greatest of m and the numbers from j on, k of them -/
def most (ns : Nat → Int) : Nat → Nat → Int → Int
  | 0, _, m => m
  | k + 1, j, m => most ns k (j + 1) (if ns j > m then ns j else m)
theorem most_loop (W : Walks prog w A.in1 I fp wr n (fun i v => ∃ t, v = .int (ns i) t) St) (S : Addr) (hSf : S ∉ fp) :
    ∀ (k j : Nat) (s : Shared) (m : Int) (t : Tok) (c : Nat), n - j = k → j ≤ n → St j s.heap →
    s.heap.get? S = some { cls := .type "list", dict := none, data := .seq #[.int m t, .int m t] c, slots := #[] } →
    (∀ t' h' tk, (∀ b o, b ∉ wr → b ≠ S → s.heap.get? b = some o → h'.get? b = some o) → R (.ok (.ret (.int (most ns k j m) t'))) { s with heap := h', toks := tk }) →
    codeAny (model prog w) A (.builtin "max.loop" ⟨[.ref I, .none, .ref S], [("default", d)]⟩) R s := by
  have hSw : S ∉ wr := fun h => hSf (W.sub _ h)
  have hname : (toString "max" ++ toString ".loop" : String) = "max.loop" := by decide
  intro k
  induction k with
  | zero =>
    intro j s m t c hk hj hst hS hR
    have hin : j = n := by omega
    refine codeAny_builtin F.entry_max_loop ?_
    rw [Around.under_plainId F.plain_max_loop _]
    show wpAny _ A.in1 (seqItems? (.ref S) >>= _) _ _ s
    refine wpAny_bind (wpAny_seqItems hS rfl ?_)
    show wpAny _ A.in1 (tryCatch (pyNext (.ref I)) _ >>= _) _ _ s
    refine wpAny_bind (wpAny_tryCatch (W.done s _ _ (hin ▸ hst) fun h' tk hk' => ?_))
    have hS' := hk' S _ hSw hS
    show wpAny _ A.in1 (updateSeq S (fun _ => #[]) >>= _) _ _ _
    refine wpAny_bind (wpAny_updateSeq hS' rfl (wpAny_bind (wpAny_letGo (wpAny_pure ?_))))
    exact hR t _ tk fun b o hbw hbS e => (Heap.get?_update_other _ _ (Ne.symm hbS)).trans (hk' b o hbw e)
  | succ k ih =>
    intro j s m t c hk hj hst hS hR
    have hlt : j < n := by omega
    refine codeAny_builtin F.entry_max_loop ?_
    rw [Around.under_plainId F.plain_max_loop _]
    show wpAny _ A.in1 (seqItems? (.ref S) >>= _) _ _ s
    refine wpAny_bind (wpAny_seqItems hS rfl ?_)
    show wpAny _ A.in1 (tryCatch (pyNext (.ref I)) _ >>= _) _ _ s
    refine wpAny_bind (wpAny_tryCatch (W.item j s _ _ hlt hst fun v h' tk hP hst' hk' => ?_))
    obtain ⟨t2, rfl⟩ := hP
    have hS' := hk' S _ hSw hS
    have hcmp := CmpOf.ints_gt (prog := prog) (w := w) (A := A.in1) (P := fun i v => (i = 0 ∧ ∃ t, v = .int m t) ∨ (i = 1 ∧ ∃ t, v = .int (ns j) t)) (fun i => if i = 0 then m else ns j) (fun i v h => by
      rcases h with ⟨rfl, h⟩ | ⟨rfl, h⟩
      · exact h
      · exact h)
    show wpAny _ A.in1 (tryCatch (holding [.int (ns j) t2, .int (ns j) t2] (richCompare .Gt (.int (ns j) t2) (.int m t) >>= _)) _ >>= _) _ _ _
    refine wpAny_bind (wpAny_tryCatch (wpAny_holding (wpAny_bind (hcmp 1 0 _ _ _ _ _ (.inr ⟨rfl, _, rfl⟩) (.inl ⟨rfl, _, rfl⟩) ?_))))
    refine wpAny_bind (wpAny_holding (wpAny_truthy_bool ?_))
    refine wpAny_bind (wpAny_letGo (wpAny_pure ?_))
    by_cases hb : ns j > m
    · rw [if_pos (by simpa using hb)]
      refine wpAny_bind ?_
      refine wpAny_updateSeq hS' rfl (wpAny_bind (wpAny_letGo ?_))
      rw [hname]
      refine wpAny_pure ⟨plainId_quiet F.plain_max_loop _, ih (j + 1) _ (ns j) t2 _ (by omega) hlt (W.frame _ _ _ hst' fun b hbf o e => ?_) (Heap.get?_update_self _ hS' rfl) fun t' h'' tk'' hk'' => ?_⟩
      · exact (Heap.get?_update_other _ _ (fun h : S = b => hSf (by rw [h]; exact hbf))).trans e
      · have := hR t' h'' tk'' fun b o hbw hbS e => hk'' b o hbw hbS ((Heap.get?_update_other _ _ (Ne.symm hbS)).trans (hk' b o hbw e))
        unfold most at this
        rw [if_pos hb] at this
        exact this
    · rw [if_neg (by simpa using hb)]
      refine wpAny_bind (wpAny_letGo ?_)
      rw [hname]
      refine wpAny_pure ⟨plainId_quiet F.plain_max_loop _, ih (j + 1) _ m t c (by omega) hlt hst' hS' fun t' h'' tk'' hk'' => ?_⟩
      have := hR t' h'' tk'' fun b o hbw hbS e => hk'' b o hbw hbS (hk' b o hbw e)
      unfold most at this
      rw [if_neg hb] at this
      exact this
def mostD (ns : Nat → Int) : Nat → Int → Int
  | 0, d => d
  | k + 1, _ => most ns k 1 (ns 0)
theorem mostD_loop {d : Int} {td : Tok} (W : Walks prog w A.in1 I fp wr n (fun i v => ∃ t, v = .int (ns i) t) St) (S : Addr) (hSf : S ∉ fp) {s : Shared} {c : Nat} (hst : St 0 s.heap)
    (hS : s.heap.get? S = some { cls := .type "list", dict := none, data := .seq #[] c, slots := #[] })
    (hR : ∀ t' h' tk, (∀ b o, b ∉ wr → b ≠ S → s.heap.get? b = some o → h'.get? b = some o) → R (.ok (.ret (.int (mostD ns n d) t'))) { s with heap := h', toks := tk }) :
    codeAny (model prog w) A (.builtin "max.loop" ⟨[.ref I, .none, .ref S], [("default", .int d td)]⟩) R s := by
  have hSw : S ∉ wr := fun h => hSf (W.sub _ h)
  have hname : (toString "max" ++ toString ".loop" : String) = "max.loop" := by decide
  refine codeAny_builtin F.entry_max_loop ?_
  rw [Around.under_plainId F.plain_max_loop _]
  show wpAny _ A.in1 (seqItems? (.ref S) >>= _) _ _ s
  refine wpAny_bind (wpAny_seqItems hS rfl ?_)
  show wpAny _ A.in1 (tryCatch (pyNext (.ref I)) _ >>= _) _ _ s
  cases n with
  | zero =>
    refine wpAny_bind (wpAny_tryCatch (W.done s _ _ hst fun h' tk hk' => ?_))
    show wpAny _ A.in1 (rule _ >>= _) _ _ _
    refine wpAny_bind (wpAny_rule ?_)
    exact wpAny_pure (hR td h' tk fun b o hbw _ e => hk' b o hbw e)
  | succ n =>
    refine wpAny_bind (wpAny_tryCatch (W.item 0 s _ _ (Nat.succ_pos _) hst fun v h' tk hP hst' hk' => ?_))
    obtain ⟨t, rfl⟩ := hP
    have hS' := hk' S _ hSw hS
    show wpAny _ A.in1 (updateSeq S (fun _ => #[.int (ns 0) t, .int (ns 0) t]) >>= _) _ _ _
    refine wpAny_bind ?_
    refine wpAny_updateSeq hS' rfl ?_
    rw [hname]
    refine wpAny_pure ⟨plainId_quiet F.plain_max_loop _, most_loop W S hSf n 1 _ (ns 0) t _ (by omega) (Nat.succ_le_succ (Nat.zero_le _)) (W.frame _ _ _ hst' fun b hbf o e => ?_) (Heap.get?_update_self _ hS' rfl) fun t' h'' tk'' hk'' => ?_⟩
    · exact (Heap.get?_update_other _ _ (fun h : S = b => hSf (by rw [h]; exact hbf))).trans e
    · exact hR t' h'' tk'' fun b o hbw hbS e => hk'' b o hbw hbS ((Heap.get?_update_other _ _ (Ne.symm hbS)).trans (hk' b o hbw e))
theorem args_maxD (a d : Value) : argsOk "max" ⟨[a], [("default", d)]⟩ := by unfold argsOk; kernel_rfl
theorem call_maxD {E : Value → Shared → Prop} {s : Shared} {l : Addr} {items : Array Value} {d : Int} {td : Tok} {Q : Value → Shared → Prop} (hh : A.handled = none) (hl : s.heap.IsList l items) (hi : ∀ i v, items[i]? = some v → ∃ t, v = Value.int (ns i) t)
    (h : ∀ t' h' tk, (∀ b o, s.heap.get? b = some o → h'.get? b = some o) → Q (.int (mostD ns items.size d) t') { s with heap := h', toks := tk }) :
    wpAny (model prog w) A (call (.builtin "max") [.ref l] [("default", .int d td)]) Q E s := by
  have hname : (toString "max" ++ toString ".loop" : String) = "max.loop" := by decide
  obtain ⟨ol, hol, _⟩ := id hl
  have hlt : l < s.heap.objs.size := Heap.lt_size hol
  refine wpAny_call (codeAny_call_builtin F.plain_max F.entry_max ?_)
  simp only [checkBuiltinCall, F.kind_max]
  have key : wpAny (model prog w) A.in1 (Builtin.«max» ⟨[.ref l], [("default", .int d td)]⟩) (fun fin s' => match fin with
      | .done f => (match (Except.ok f : Result) with | .ok (.ret v) => Q v s' | .ok _ => False | .error e => E e s')
      | .again c' => c'.quiet = true ∧ codeAny (model prog w) A c' (fun r s' => match r with | .ok (.ret v) => Q v s' | .ok _ => False | .error e => E e s') s') E s := by
    show wpAny _ A.in1 (Builtin.Builtins.bindParams "max" ["key", "default"] 0 ⟨[], [("default", .int d td)]⟩ >>= _) _ _ s
    refine wpAny_bind (wpAny_of_eq (show Builtin.Builtins.bindParams "max" ["key", "default"] 0 ⟨[], [("default", .int d td)]⟩ = pure [none, some (.int d td)] by first | rfl | kernel_rfl) ?_)
    refine wpAny_bind (wpAny_pure ?_)
    refine wpAny_bind (wpAny_pyIter_list hl ?_)
    refine wpAny_bind (wpAny_newObj_type ?_)
    rw [hname]
    have ez : (s.heap.push { cls := .type "list_iterator", data := .fields #[.ref l, .int 0 0] }).objs.size = s.heap.objs.size + 1 := Heap.size_push ..
    have hne : l ≠ s.heap.objs.size := Nat.ne_of_lt hlt
    have hS := Heap.get?_push_size (s.heap.push { cls := .type "list_iterator", data := .fields #[.ref l, .int 0 0] }) (o := { cls := .type "list", dict := none, data := .seq #[] 0, slots := #[] }) rfl
    refine wpAny_pure ⟨plainId_quiet F.plain_max_loop _, mostD_loop (ns := ns) (n := items.size) (Walks.list (A := A.in1) hh s.heap.objs.size l hne items |> fun W => ⟨W.sub, W.frame, fun i s' Q' E' hi' st' hq => W.item i s' Q' E' hi' st' fun v h' tk hv => hq v h' tk (hi i v hv), W.done, W.self⟩) (s.heap.push { cls := .type "list_iterator", data := .fields #[.ref l, .int 0 0] }).objs.size ?_ ?_ hS fun t' h' tk hk => ?_⟩
    · rw [ez]
      intro hm
      rcases (by simpa using hm : s.heap.objs.size + 1 = s.heap.objs.size ∨ s.heap.objs.size + 1 = l) with h | h
      · exact Nat.succ_ne_self _ h
      · exact absurd hlt (by rw [← h]; exact Nat.not_lt.mpr (Nat.le_succ _))
    · exact ⟨⟨_, Heap.get?_push_of_some _ (Heap.get?_push_size _ rfl), rfl, rfl⟩, (hl.push _).push _⟩
    · refine h t' h' tk fun b o e => hk b o ?_ ?_ (Heap.get?_push_of_some _ (Heap.get?_push_of_some _ e))
      · intro hm
        exact Nat.ne_of_lt (Heap.lt_size e) (by simpa using hm)
      · rw [ez]
        exact Nat.ne_of_lt (Nat.lt_succ_of_lt (Heap.lt_size e))
  cases hsig : Manifest.signature? "max" with
  | none => exact wpAny_pure key
  | some sig =>
    have ha := args_maxD (.ref l) (.int d td)
    simp only [argsOk, hsig] at ha
    have h2 : Bind.checkArgs "max" sig ⟨[.ref l], [("default", .int d td)]⟩ = pure () := ha
    first
      | (show wpAny _ A.in1 (Bind.checkArgs "max" sig ⟨[.ref l], [("default", .int d td)]⟩) _ _ s
         rw [h2]
         exact wpAny_pure key)
      | (simp only [h2]; exact wpAny_pure key)
end
end Dl

set_option Elab.async false
set_option linter.all false
set_option maxRecDepth 100000
set_option maxHeartbeats 2000000
/-! Dl: U: more rules: loops over dicts and changing lists, locks, membership, deep ==, more methods and built-ins. -/
namespace Dl
open PySem PySem.Spec PyProof.Rows L2
section
variable {c : Cfg} {ρ ρ' : Env} {M M1 M2 M3 M4 M' : Mem} {pos p2 p3 apos cpos : Pos} {e a b o tg c0 : Expr} {es : List Expr} {d x y z : D} {xs ys zs ds : List D} {n m : Int} {s t : List Nat} {nm : Str} {p : Addr} {kvs more : List (DK × D)} {j : DK} {P : Post} {sts : List Stmt} {st : Stmt} {u : HO}
theorem repK_get {K : PySem.W.Frag} {F : Hp} : ∀ {kvs : List (DK × D)} {ws : List (Key × V)} {i : Nat} {k : DK} {d : D}, RepK K F kvs ws → kvs[i]? = some (k, d) → ∃ v, ws[i]? = some (k.k, v) ∧ Rep K F d v
  | [], _, _, _, _, _, h => by cases h
  | (k, d) :: r, ws, i, k', d', q, h => by
    obtain ⟨v, ws', rfl, h1, h2⟩ := repK_cons.mp q
    cases i with
    | zero => cases h; exact ⟨v, rfl, h1⟩
    | succ i => exact repK_get (kvs := r) (ws := ws') h2 h
theorem kD_rep {K : PySem.W.Frag} {F : Hp} {k : DK} : Rep K F (kD k) (kV k.k) := by
  cases k with
  | inl i => exact rep_int.mpr rfl
  | inr s => exact rep_str.mpr rfl
/-- what may be gone through by its keys -/
theorem walk_keys {K : PySem.W.Frag} {F : Hp} {p : Addr} {ws : List (Key × V)} {w : Obj} {Φ : Mem → Prop} (hp : ∀ F2 H2 M, Same F F2 → Sit K F2 M H2 → Φ M → H2 p = some (.frz w (.dK ws))) (r : RepK K F kvs ws) : WalkM K F (Itk p w ws) (kvs.map fun kv => kD kv.1) Φ := fun F2 H2 M2 hs S2 hΦ => by
  have h2 := hp F2 H2 M2 hs S2 hΦ
  have hl := r.len
  refine ⟨fun i x hx => ?_, h2, by rw [List.length_map, hl]; exact Nat.le_refl _⟩
  rw [List.getElem?_map] at hx
  obtain ⟨⟨k, dd⟩, hk, rfl⟩ := Option.map_eq_some_iff.mp hx
  obtain ⟨v, hv, _⟩ := repK_get r hk
  refine ⟨⟨h2, (List.getElem?_eq_some_iff.mp hv).1⟩, fun w' H3 ⟨e3, k', v', hk', ew⟩ => ?_⟩
  rw [hv] at hk'
  cases hk'
  subst e3 ew
  exact ⟨F2, kD_rep, S2, Go.refl⟩
theorem pin_keys (h : PV c e ρ M (.dct kvs) M1) : PIn c tg e ρ M (kvs.map fun kv => kD kv.1) M1 := .mk fun hE => by
  obtain ⟨t, a1, a2⟩ := h.out hE
  refine ⟨iKeys t, fun X hX => pi_keys (a1 X hX), fun F σ H S L R q => a2 F σ H S L _ fun F1 H1 v x M1' ⟨e1, e2⟩ S1 g1 p1 => ?_⟩
  subst e1 e2
  obtain ⟨p, ws, rfl, ⟨w, hp⟩, r⟩ := rep_dct.mp p1
  exact ⟨p, w, rfl, .inl ⟨ws, S1.fh _ _ hp, q F1 H1 _ S1 g1 (walk_keys (fun F2 H2 M2 hs S2 _ => S2.fh _ _ (hs _ _ hp)) r)⟩⟩
/-- a dict that is locked while this goes on -/
theorem pin_keysL (h : PV c e ρ M (.ref p) M1) (hm : MAt M1 p (.dKL kvs u)) : PInM c tg e ρ M (kvs.map fun kv => kD kv.1) M1 (fun N => MAt N p (.dKL kvs u)) := .mk fun hE => by
  obtain ⟨t, a1, a2⟩ := h.out hE
  refine ⟨iKeys t, fun X hX => pi_keys (a1 X hX), fun F σ H S L R q => a2 F σ H S L _ fun F1 H1 v x M1' ⟨e1, e2⟩ S1 g1 p1 => ?_⟩
  subst e1 e2
  have ep := rep_ref.mp p1
  subst ep
  obtain ⟨_, u', hu, ws, w, e1, e2, r⟩ := hm.get S1.ok
  subst e1 e2
  exact ⟨p, w, rfl, .inl ⟨ws, hu, q F1 H1 _ S1 g1 (walk_keys (fun F2 H2 M2 hs S2 hΦ => by
    obtain ⟨_, u2, hu2, _, _, e1, _, _⟩ := hΦ.get S2.ok
    rw [hu2, e1]) r)⟩⟩
/-- a list that changes, gone through -/
theorem pin_lstM (h : PV c e ρ M (.ref p) M1) (hm : MAt M1 p (.lst xs)) : PInM c tg e ρ M xs M1 (fun N => MAt N p (.lst xs)) := .mk fun hE => by
  obtain ⟨t, a1, a2⟩ := h.out hE
  refine ⟨iList c.K t, fun X hX => by rw [← hX.K]; exact pi_list (a1 X hX), fun F σ H S L R q => a2 F σ H S L _ fun F1 H1 v x M1' ⟨e1, e2⟩ S1 g1 p1 => ?_⟩
  subst e1 e2
  have ep := rep_ref.mp p1
  subst ep
  obtain ⟨_, u', hu, vs, rfl, r⟩ := hm.get S1.ok
  refine ⟨p, rfl, ⟨vs, SqL.of hu⟩, q F1 H1 _ S1 g1 fun F2 H2 M2 hs S2 hΦ => ?_⟩
  obtain ⟨_, u2, hu2, vs2, rfl, r2⟩ := hΦ.get S2.ok
  have h2 : SqL c.K H2 p vs2 := SqL.of hu2
  refine ⟨fun i x hx => ?_, ⟨vs2, h2, by rw [r2.len]; exact Nat.le_refl _⟩⟩
  obtain ⟨v, hv, rv⟩ := r2.get hx
  refine ⟨⟨vs2, v, h2, hv⟩, fun w H3 ⟨e3, hw⟩ => ?_⟩
  subst e3
  have := hw vs2 h2
  rw [hv] at this
  cases this
  exact ⟨F2, rv, S2, Go.refl⟩
/-- the statement runs while the dict at p is locked -/
theorem ss_lock {Ml : HO → Mem} (hm : MAt M p (.dK kvs)) (hl : ∀ u, MPut M p (.dKL kvs u) (Ml u))
    (h : ∀ u, PSn c st ρ (Ml u) ⟨fun ρ' N => ∃ N', MAt N p (.dKL kvs u) ∧ MPut N p (.dK kvs) N' ∧ PSsn c sts ρ' N' P, fun d N => ∃ N', MAt N p (.dKL kvs u) ∧ MPut N p (.dK kvs) N' ∧ P.rt d N', fun ρ' N => ∃ N', MAt N p (.dKL kvs u) ∧ MPut N p (.dK kvs) N' ∧ P.bk ρ' N', fun ρ' N => ∃ N', MAt N p (.dKL kvs u) ∧ MPut N p (.dK kvs) N' ∧ P.ct ρ' N'⟩) : PSsn c (st :: sts) ρ M P := pss_cons' (.mk fun hE => by
  refine ⟨tLock fun D σ H => ∃ t : TS, (∀ X, c.Has X → PS X st t) ∧ t D σ H, fun X hX => ps_lock ⟨fun pins s σ H D I ⟨t, a, b⟩ => (a X hX).run pins s σ H D I b⟩, fun F σ H S L D f => ?_⟩
  obtain ⟨_, u0, hu, ws, rfl, r⟩ := hm.get S.ok
  refine ⟨p, .dK ws, hu, True.intro, fun od => ?_⟩
  obtain ⟨S1, g1⟩ := S.put (hl (.frz od (.dK ws))) (u := .frz od (.dK ws)) ⟨ws, od, rfl, rfl, r⟩
  have back : ∀ {N : Mem} {F' H' : Hp}, MAt N p (.dKL kvs (.frz od (.dK ws))) → Sit c.K F' N H' → H' p = some (.frz od (.dK ws)) := fun hN S' => by
    obtain ⟨_, u2, hu2, _, _, e1, _, _⟩ := hN.get S'.ok
    rw [hu2, e1]
  have frees : ∀ {N N' : Mem} {F' H' : Hp}, MAt N p (.dKL kvs (.frz od (.dK ws))) → MPut N p (.dK kvs) N' → Sit c.K F' N H' → Go (Ml (.frz od (.dK ws))) F (upd H p (.frz od (.dK ws))) N F' H' → Sit c.K F' N' (upd H' p (.dK ws)) ∧ Go M F H N' F' (upd H' p (.dK ws)) := fun hN hP S' g' => by
    obtain ⟨_, u2, hu2, ws2, w2, e1, e2, r2⟩ := hN.get S'.ok
    cases e2
    obtain ⟨S2, g2⟩ := S'.put hP (u := .dK ws) ⟨ws, rfl, r2⟩
    exact ⟨S2, g1.trans (g'.trans g2)⟩
  obtain ⟨t, a, b⟩ := (h (.frz od (.dK ws))).out hE
  exact ⟨t, a, b F σ _ S1 L _ ⟨fun F' H' ρ' σ' M' ⟨N', hN, hP, q⟩ hE' S' L' g' => ⟨back hN S', f.nx _ _ ρ' σ' N' q hE' (frees hN hP S' g').1 L' (frees hN hP S' g').2⟩,
    fun F' H' v d M' ⟨N', hN, hP, q⟩ S' g' r' => ⟨back hN S', f.rt _ _ v d N' q (frees hN hP S' g').1 (frees hN hP S' g').2 r'⟩,
    fun F' H' ρ' σ' M' ⟨N', hN, hP, q⟩ hE' S' L' g' => ⟨back hN S', f.bk _ _ ρ' σ' N' q hE' (frees hN hP S' g').1 L' (frees hN hP S' g').2⟩,
    fun F' H' ρ' σ' M' ⟨N', hN, hP, q⟩ hE' S' L' g' => ⟨back hN S', f.ct _ _ ρ' σ' N' q hE' (frees hN hP S' g').1 L' (frees hN hP S' g').2⟩⟩⟩)
end
end Dl

set_option Elab.async false
set_option linter.all false
set_option maxRecDepth 100000
set_option maxHeartbeats 2000000
/-! Dl: V: membership, deep ==, is None, list and dict methods, more built-ins. -/
namespace Dl
open PySem PySem.Spec PyProof.Rows L2
/-- data of one flat kind -/
class FlatD {α : Type} [DecidableEq α] (f : α → D) where
  g : α → V
  rep : ∀ K F a v, Rep K F (f a) v ↔ v = g a
  flat : ∀ a, flatV (g a) = true
  eq : ∀ a b, eqV (g a) (g b) = decide (a = b)
instance : FlatD D.int := ⟨V.int, fun _ _ _ _ => rep_int, fun _ => rfl, fun a b => by show (a == b) = _; exact Bool.eq_iff_iff.mpr (by simp)⟩
instance : FlatD D.str := ⟨fun s => V.str (T s), fun _ _ _ _ => rep_str, fun _ => rfl, fun a b => by
  show (T a == T b) = _
  exact Bool.eq_iff_iff.mpr (by simp [T_eq])⟩
/-- a list or tuple, as it is read -/
def SeqD (K : PySem.W.Frag) (y : D) (M : Mem) (xs : List D) : Prop := ∀ F H v, Sit K F M H → Rep K F y v → ∃ p vs, v = .ref p ∧ (SqL K H p vs ∨ SqT K H p vs) ∧ Reps K F xs vs
def SeqDL (K : PySem.W.Frag) (y : D) (M : Mem) (xs : List D) : Prop := ∀ F H v, Sit K F M H → Rep K F y v → ∃ p vs, v = .ref p ∧ H p = some (.lst vs) ∧ Reps K F xs vs
section
variable {K : PySem.W.Frag} {M : Mem} {y : D} {xs : List D} {p : Addr}
theorem sql_lst : SeqDL K (.lst xs) M xs := fun F H v S r => by
  obtain ⟨p, vs, e, h, rs⟩ := rep_lst.mp r
  exact ⟨p, vs, e, S.fh _ _ h, rs⟩
theorem sql_M (hm : MAt M p (.lst xs)) : SeqDL K (.ref p) M xs := fun F H v S r => by
  obtain ⟨_, u, hu, vs, e, rs⟩ := hm.get S.ok
  subst e
  exact ⟨p, vs, rep_ref.mp r, hu, rs⟩
theorem SeqDL.sq (h : SeqDL K y M xs) : SeqD K y M xs := fun F H v S r => let ⟨p, vs, e, q, rs⟩ := h F H v S r; ⟨p, vs, e, .inl (SqL.of q), rs⟩
theorem sq_lst : SeqD K (.lst xs) M xs := sql_lst.sq
theorem sq_M (hm : MAt M p (.lst xs)) : SeqD K (.ref p) M xs := (sql_M hm).sq
theorem sq_tup : SeqD K (.tup xs) M xs := fun F H v S r => by
  obtain ⟨p, vs, e, h, rs⟩ := rep_tup.mp r
  exact ⟨p, vs, e, .inr (sqt_up S h), rs⟩
end
section
variable {c : Cfg} {ρ ρ' : Env} {M M1 M2 M3 M4 M' : Mem} {pos p2 p3 apos cpos : Pos} {e a b o tg c0 : Expr} {es : List Expr} {d x y z : D} {xs ys zs ds : List D} {n m : Int} {s t : List Nat} {nm : Str} {p : Addr} {kvs more : List (DK × D)} {j : DK} {P : Post} {sts : List Stmt} {K : PySem.W.Frag}
section
variable {α : Type} [DecidableEq α] {f : α → D} [fl : FlatD f] {l : List α} {k : α}
theorem reps_fl {F : Hp} {vs : List V} : Reps K F (l.map f) vs ↔ vs = l.map fl.g := reps_map fun a v => fl.rep K F a v
theorem inV_fl : inV (fl.g k) (l.map fl.g) = decide (k ∈ l) := by
  unfold inV
  induction l with
  | nil => rfl
  | cons a l ih =>
    rw [List.map_cons, List.any_cons, ih, fl.eq]
    by_cases h : a = k
    · subst h; simp
    · simp [h, Ne.symm h]
theorem all_fl : (l.map fl.g).all flatV = true := by
  rw [List.all_eq_true]
  intro v hv
  obtain ⟨a, _, rfl⟩ := List.mem_map.mp hv
  exact fl.flat a
theorem o_inF (h : SeqD c.K y M (l.map f)) : CmpD c .In (f k) y M (.bl (decide (k ∈ l))) M := .mk <| .of (r := rIn c.K false) (fun X hX => by rw [← hX.K]; exact op_in_seq) fun F H v w S r1 r2 => by
  obtain ⟨p, vs, rfl, hq, rs⟩ := h F H w S r2
  rw [reps_fl.mp rs] at hq
  refine ⟨_, rep_bl.mpr rfl, fun Q q => ⟨p, _, rfl, hq, by rw [(fl.rep _ _ _ _).mp r1]; exact fl.flat k, all_fl, ?_⟩⟩
  rw [(fl.rep _ _ _ _).mp r1, inV_fl]
  exact q
theorem o_ninF (h : SeqD c.K y M (l.map f)) : CmpD c .NotIn (f k) y M (.bl (!decide (k ∈ l))) M := .mk <| .of (r := rIn c.K true) (fun X hX => by rw [← hX.K]; exact op_notIn_seq) fun F H v w S r1 r2 => by
  obtain ⟨p, vs, rfl, hq, rs⟩ := h F H w S r2
  rw [reps_fl.mp rs] at hq
  refine ⟨_, rep_bl.mpr rfl, fun Q q => ⟨p, _, rfl, hq, by rw [(fl.rep _ _ _ _).mp r1]; exact fl.flat k, all_fl, ?_⟩⟩
  rw [(fl.rep _ _ _ _).mp r1, inV_fl]
  exact q
/-- l.index(k) -/
theorem pv_index {i : Nat} (ho : PV c o ρ M x M1) (hx : ∃ ys, SeqDL c.K x M1 ys) (ha : PV c e ρ M1 (f k) M2) (hs : SeqDL c.K x M2 (l.map f)) (hi : l[i]? = some k) (hno : ∀ m, m < i → l[m]? ≠ some k)
    (hbase : ∀ env : PySem.Env, attributeBase o "index" env (eval o env) = eval o env := by intro _; rfl)
    (hfew : ∀ env : PySem.Env, ((backTo cpos (starEach [e] env)).all (fun x => !x.1) && (backToKw cpos (keywordEach [] env)).all (fun x => x.1.isSome) && decide (([e] : List Expr).length + ([] : List Keyword).length + (if ([] : List Keyword).isEmpty then 0 else 1) < 30)) = true := by intro _; rfl)
    (hline : (apos.endLine == cpos.line) = true := by rfl) (hs1 : Pl1 e := by intro _; rfl) (hpl : ∀ env : PySem.Env, (backTo cpos (starEach [] env)).any (·.1) = false := by intro _; rfl) : PV c (.Call (.Attribute o "index" apos) [e] [] cpos) ρ M (.int i) M2 := .mk fun hE => by
  obtain ⟨to, o1, o2⟩ := ho.out hE
  obtain ⟨te, a1, a2⟩ := ha.out hE
  refine ⟨tBM c.K "list" (rIndex c.K) to (tCons te tNil), fun X hX => by rw [← hX.K]; exact pe_bm PySem.F.plainAttrs_list PySem.F.slot_list_index PySem.F.type_list_index mt_index (o1 X hX) (pa_cons (a1 X hX) pa_nil (hs1 _)) (hbase _) (hfew _) hline (hs1 _) (hpl _),
    fun F σ H S L Q q => o2 F σ H S L _ fun F1 H1 v x M1' ⟨e1, e2⟩ S1 g1 p1 => ?_⟩
  subst e1 e2
  obtain ⟨ys, hys⟩ := hx
  obtain ⟨pp, vs0, ev, hl0, _⟩ := hys F1 H1 v S1 p1
  refine ⟨by rw [ev]; exact .inl ⟨rfl, vs0, SqL.of hl0⟩, a2 F1 σ H1 S1 (L.mono g1.ff) _ fun F2 H2 w y M2' ⟨e1, e2⟩ S2 g2 p2 => ?_⟩
  subst e1 e2
  obtain ⟨p', vs, ev', hl, rs⟩ := hs F2 H2 v S2 (p1.mono g2.ff)
  rw [reps_fl.mp rs] at hl
  rw [(fl.rep _ _ _ _).mp p2]
  refine ⟨p', _, fl.g k, i, fl.g k, ev', rfl, SqL.of hl, fl.flat k, all_fl, by rw [List.getElem?_map, hi]; rfl, by rw [fl.eq]; simp, fun m z' hm hz => ?_, q _ _ _ _ _ ⟨rfl, rfl⟩ S2 (g1.trans g2) (rep_int.mpr rfl)⟩
  rw [List.getElem?_map] at hz
  obtain ⟨b, hb, rfl⟩ := Option.map_eq_some_iff.mp hz
  rw [fl.eq]
  have := hno m hm
  rw [hb] at this
  simpa using this
end
theorem rep_isnon {F : Hp} {v : V} (h : Rep K F x v) : v = .non ↔ x = .non := by
  cases x <;> unfold Rep at h <;> first
    | (subst h; simp; done)
    | (obtain ⟨_, _, rfl, _⟩ := h; simp; done)
    | (obtain ⟨_, _, _, rfl, _⟩ := h; simp; done)
theorem o_isN {k : Bool} (h : k = true ↔ x = .non) : CmpD c .Is x .non M (.bl k) M := .mk <| .of (fun X _ => op_isN) fun F H v w S r1 r2 => ⟨_, rep_bl.mpr rfl, fun Q q => ⟨rep_non.mp r2, by
  have : decide (v = .non) = k := Bool.eq_iff_iff.mpr (by rw [decide_eq_true_iff, rep_isnon r1, h])
  rw [this]; exact q⟩⟩
theorem o_notN {k : Bool} (h : k = true ↔ x ≠ .non) : CmpD c .IsNot x .non M (.bl k) M := .mk <| .of (fun X _ => op_notN) fun F H v w S r1 r2 => ⟨_, rep_bl.mpr rfl, fun Q q => ⟨rep_non.mp r2, by
  have : (!decide (v = .non)) = k := Bool.eq_iff_iff.mpr (by rw [h, Bool.not_eq_true', decide_eq_false_iff_not, rep_isnon r1])
  rw [this]; exact q⟩⟩
/-- l.pop() -/
theorem pv_pop (ho : PV c o ρ M (.ref p) M1) (hm : MAt M1 p (.lst xs)) (hl : xs[xs.length - 1]? = some d) (hp : MPut M1 p (.lst xs.dropLast) M2)
    (hbase : ∀ env : PySem.Env, attributeBase o "pop" env (eval o env) = eval o env := by intro _; rfl) (hline : (apos.endLine == cpos.line) = true := by rfl) : PV c (.Call (.Attribute o "pop" apos) [] [] cpos) ρ M d M2 := .mk fun hE => by
  obtain ⟨to, o1, o2⟩ := ho.out hE
  refine ⟨tBM0 c.K "list" rPop to, fun X hX => by rw [← hX.K]; exact pe_bm0 PySem.F.plainAttrs_list PySem.F.slot_list_pop PySem.F.type_list_pop mt_pop (o1 X hX) (hbase _) hline,
    fun F σ H S L Q q => o2 F σ H S L _ fun F1 H1 v x M1' ⟨e1, e2⟩ S1 g1 p1 => ?_⟩
  subst e1 e2
  have ep := rep_ref.mp p1
  subst ep
  obtain ⟨_, u, hu, vs, rfl, r⟩ := hm.get S1.ok
  have hlen := r.len
  obtain ⟨w, hw, rw'⟩ := r.get hl
  refine ⟨ty_list S1 hm, p, vs, w, rfl, rfl, hu, by rw [hlen]; exact hw, ?_⟩
  have rd : Reps c.K F1 xs.dropLast vs.dropLast := by
    rw [List.dropLast_eq_take, List.dropLast_eq_take, hlen]; exact r.take _
  obtain ⟨S2, g2⟩ := S1.put hp (u := .lst vs.dropLast) ⟨_, rfl, rd⟩
  exact q _ _ _ _ _ ⟨rfl, rfl⟩ S2 (g1.trans g2) (rw'.mono g2.ff)
/-- l.extend(a list) -/
theorem pv_extend (ho : PV c o ρ M (.ref p) M1) (h0 : MAt M1 p (.lst zs)) (ha : PV c e ρ M1 (.lst ys) M2) (hm : MAt M2 p (.lst xs)) (hp : MPut M2 p (.lst (xs ++ ys)) M3) (hl : xs.length + ys.length ≤ sizeLine)
    (hbase : ∀ env : PySem.Env, attributeBase o "extend" env (eval o env) = eval o env := by intro _; rfl)
    (hfew : ∀ env : PySem.Env, ((backTo cpos (starEach [e] env)).all (fun x => !x.1) && (backToKw cpos (keywordEach [] env)).all (fun x => x.1.isSome) && decide (([e] : List Expr).length + ([] : List Keyword).length + (if ([] : List Keyword).isEmpty then 0 else 1) < 30)) = true := by intro _; rfl)
    (hline : (apos.endLine == cpos.line) = true := by rfl) (hs : Pl1 e := by intro _; rfl) (hpl : ∀ env : PySem.Env, (backTo cpos (starEach [] env)).any (·.1) = false := by intro _; rfl) : PV c (.Call (.Attribute o "extend" apos) [e] [] cpos) ρ M .non M3 := .mk fun hE => by
  obtain ⟨to, o1, o2⟩ := ho.out hE
  obtain ⟨te, a1, a2⟩ := ha.out hE
  refine ⟨tBM c.K "list" rExtend to (tCons te tNil), fun X hX => by rw [← hX.K]; exact pe_bm PySem.F.plainAttrs_list PySem.F.slot_list_extend PySem.F.type_list_extend mt_extend (o1 X hX) (pa_cons (a1 X hX) pa_nil (hs _)) (hbase _) (hfew _) hline (hs _) (hpl _),
    fun F σ H S L Q q => o2 F σ H S L _ fun F1 H1 v x M1' ⟨e1, e2⟩ S1 g1 p1 => ?_⟩
  subst e1 e2
  have ep := rep_ref.mp p1
  subst ep
  refine ⟨ty_list S1 h0, a2 F1 σ H1 S1 (L.mono g1.ff) _ fun F2 H2 w y M2' ⟨e1, e2⟩ S2 g2 p2 => ?_⟩
  subst e1 e2
  obtain ⟨_, u, hu, vs, rfl, r⟩ := hm.get S2.ok
  obtain ⟨b, ws, rfl, hb, r2⟩ := rep_lst.mp p2
  obtain ⟨S3, g3⟩ := S2.put hp (u := .lst (vs ++ ws)) ⟨_, rfl, r.append r2⟩
  exact ⟨p, b, vs, ws, rfl, rfl, hu, S2.fh _ _ hb, by rw [r.len, r2.len]; exact hl, q _ _ _ _ _ ⟨rfl, rfl⟩ S3 (g1.trans (g2.trans g3)) (rep_non.mpr rfl)⟩
/-- a list and a list -/
theorem o_catL (hl : xs.length + ys.length ≤ sizeLine) : BinD c .Add (.lst xs) (.lst ys) M (.lst (xs ++ ys)) M := .mk ⟨rCat, fun X _ => op_cat, fun F H v w S r1 r2 Q q => by
  obtain ⟨a, vs, rfl, ha, ra⟩ := rep_lst.mp r1
  obtain ⟨b, ws, rfl, hb, rb⟩ := rep_lst.mp r2
  refine ⟨a, b, vs, ws, rfl, rfl, S.fh _ _ ha, S.fh _ _ hb, by rw [ra.len, rb.len]; exact hl, fun p hp => ?_⟩
  obtain ⟨S2, g2⟩ := S.new (o := .lst (vs ++ ws)) hp
  exact q _ _ _ S2 g2 (rep_lst.mpr ⟨p, _, rfl, upd_same, (ra.append rb).mono g2.ff⟩)⟩
/-! sorted -/
def leS (a b : List Nat) : Bool := !decide (b < a)
theorem ltCps_eq : ∀ a b : List Nat, ltCps a b = decide (a < b)
  | [], [] => by simp [ltCps]
  | [], _ :: _ => by simp [ltCps]
  | _ :: _, [] => by simp [ltCps]
  | a :: r, b :: t => by
    unfold ltCps
    rw [ltCps_eq r t]
    refine Bool.eq_iff_iff.mpr ?_
    simp [List.cons_lt_cons_iff]
theorem leS_total (a b : List Nat) : leS a b || leS b a := by
  unfold leS
  by_cases h : b < a
  · have : ¬ a < b := List.lt_asymm h
    simp [this]
  · simp [h]
theorem leS_trans (a b d : List Nat) (h1 : leS a b) (h2 : leS b d) : leS a d := by
  unfold leS at *
  simp only [Bool.not_eq_true', decide_eq_false_iff_not] at *
  intro h
  exact h1 (List.lt_of_le_of_lt h2 h)
theorem leS_anti (a b : List Nat) (h1 : leS a b) (h2 : leS b a) : a = b := by
  unfold leS at *
  simp only [Bool.not_eq_true', decide_eq_false_iff_not] at *
  exact List.le_antisymm h1 h2
def sortL (ls : List (List Nat)) : List (List Nat) := ls.mergeSort leS
theorem rising_pair : ∀ (ys : List Str) (p : Str), risingS p ys = true → (p :: ys).Pairwise fun a b => leS a.cps.toList b.cps.toList = true
  | [], p, _ => by simp
  | y :: r, p, h => by
    unfold risingS at h
    obtain ⟨h1, h2⟩ := Bool.and_eq_true_iff.mp h
    have ih := rising_pair r y h2
    have hpy : leS p.cps.toList y.cps.toList = true := by unfold leS; rw [← ltCps_eq]; exact h1
    refine List.pairwise_cons.mpr ⟨fun b hb => ?_, ih⟩
    rcases List.mem_cons.mp hb with rfl | hb
    · exact hpy
    · exact leS_trans _ _ _ hpy ((List.pairwise_cons.mp ih).1 b hb)
theorem sorted_uniq {ys : List Str} {ls : List (List Nat)} (hp : ys.Perm (ls.map T)) (hs : sortedS ys = true) : ys = (sortL ls).map T := by
  have h1 : (ys.map fun y => y.cps.toList).Pairwise fun a b => leS a b = true := by
    rw [List.pairwise_map]
    cases ys with
    | nil => exact .nil
    | cons y r => exact rising_pair r y hs
  have h2 : (sortL ls).Pairwise fun a b => leS a b = true := List.pairwise_mergeSort leS_trans leS_total ls
  have h3 : (ys.map fun y => y.cps.toList).Perm (sortL ls) := by
    refine ((hp.map fun y : Str => y.cps.toList).trans ?_).trans (List.mergeSort_perm ls leS).symm
    rw [List.map_map]
    have : ((fun y : Str => y.cps.toList) ∘ T) = _root_.id := by funext l; simp
    rw [this, List.map_id]
  have e := List.Perm.eq_of_pairwise (fun a b _ _ x y => leS_anti a b x y) h1 h2 h3
  rw [← e, List.map_map]
  have : (T ∘ fun y : Str => y.cps.toList) = _root_.id := by funext l; exact T_list l
  rw [this, List.map_id]
theorem b_sortS {ls : List (List Nat)} (hx : xs = ls.map D.str) (hl : ls.length < 64) (hf : BltF c.K c.mg "sorted") (hg : GlC c "sorted" := by rfl) (hs : Pl1 e := by intro _; rfl) : B1 c "sorted" e ρ M (.lst xs) M1 (.lst ((sortL ls).map D.str)) M1 p2 pos := .mk fun h => by
  subst hx
  refine pv_blt (r := rSortedS c.K) (pas1 h hs) hf (fun X hX => by rw [← hX.K]; exact cr_sortedS) boot_sorted (fun F H vs S rs Q q => ?_) hg (by decide) (by decide) hs
  obtain ⟨v, rfl, r1⟩ := reps1 rs
  obtain ⟨a, ws, rfl, ha, r2⟩ := rep_lst.mp r1
  rw [reps_strs] at r2
  subst r2
  refine ⟨a, ls.map T, rfl, SqL.of (S.fh _ _ ha), by rw [List.length_map]; exact hl, fun ys p hy hs hp => ?_⟩
  rw [sorted_uniq hy hs]
  obtain ⟨S2, g2⟩ := S.new (o := .lst (((sortL ls).map T).map V.str)) hp
  exact q _ _ _ S2 g2 (rep_lst.mpr ⟨p, _, rfl, upd_same, reps_strs.mpr rfl⟩)
end
end Dl

set_option Elab.async false
set_option linter.all false
set_option maxRecDepth 100000
set_option maxHeartbeats 2000000
/-! Dl: W: the rest: tuple(range), list(dict), pop, update, chains, three at once, max with default. -/
namespace Dl
open PySem PySem.Spec PyProof.Rows L2
section
variable {c : Cfg} {ρ ρ' : Env} {M M1 M2 M3 M4 M' : Mem} {pos p2 p3 p4 apos cpos : Pos} {e a b o tg c0 : Expr} {es : List Expr} {d x y z : D} {xs ys zs ds : List D} {n m : Int} {s t : List Nat} {nm n1 n2 n3 : Str} {p : Addr} {kvs more : List (DK × D)} {j : DK} {P : Post} {sts : List Stmt} {K : PySem.W.Frag}
theorem pv_tupRg (h : PV c a ρ M (.int n) M1) (h0 : 0 ≤ n) (hn : n ≤ 1000000) (hf : BltF c.K c.mg "range") (hf2 : BltF c.K c.mg "tuple") (hg : GlC c "range" := by rfl) (hg2 : GlC c "tuple" := by rfl)
    (hs : ∀ env : PySem.Env, starEach [a] env = (false, eval a env) :: starEach [] env := by intro _; rfl) (hs2 : ∀ env : PySem.Env, starEach [.Call (.Name "range" p2) [a] [] p3] env = (false, eval (.Call (.Name "range" p2) [a] [] p3) env) :: starEach [] env := by intro _; rfl) :
    PV c (.Call (.Name "tuple" p4) [.Call (.Name "range" p2) [a] [] p3] [] pos) ρ M (.tup ((List.range n.toNat).map fun i => .int (i : Nat))) M1 := .mk fun hE => by
  obtain ⟨t, a1, a2⟩ := h.out hE
  refine ⟨tTupRg (tRg1 t), fun X hX => pe_tupRg hX.calm (hg2.gl hX) (by rw [hX.mg]; exact hf2.no) (prg_1 (hg.gl hX) (by rw [hX.mg]; exact hf.no) (a1 X hX) (hs _)) (hs2 _), fun F σ H S L Q q => a2 F σ H S L _ fun F1 H1 v x M1' ⟨e1, e2⟩ S1 g1 p1 => ?_⟩
  subst e1 e2
  refine ⟨n, rep_int.mp p1, RgOk.of_le (by omega) (by omega) (by omega) h0, fun p hp => ?_⟩
  obtain ⟨S2, g2⟩ := S1.new (o := .tup (rgV 0 n)) hp
  refine q _ _ _ _ _ ⟨rfl, rfl⟩ S2 (g1.trans g2) (rep_tup.mpr ⟨p, _, rfl, SqT.of upd_same, ?_⟩)
  have : Reps c.K (upd F1 p (.tup (rgV 0 n))) ((List.range n.toNat).map fun i => D.int (i : Nat)) ((List.range n.toNat).map fun i => V.int (i : Nat)) := (reps_map (f := fun i : Nat => D.int i) (g := fun i : Nat => V.int i) fun _ _ => rep_int).mpr rfl
  have e : rgV 0 n = (List.range n.toNat).map fun i => V.int (i : Nat) := by unfold rgV; simp
  rw [e]; rw [e] at this; exact this
/-- list(d) of a dict that changes -/
theorem b_listKM (hm : MAt M1 p (.dK kvs)) (hf : BltF c.K c.mg "list") (hg : GlC c "list" := by rfl) (hs : Pl1 e := by intro _; rfl) : B1 c "list" e ρ M (.ref p) M1 (.lst (kvs.map fun kv => kD kv.1)) M1 p2 pos := .mk fun h => by
  refine pv_bty (r := rListD) (pas1 h hs) hf (fun X hX => call_list_dK hX.calm) boot_list (fun F H vs S rs Q q => ?_) hg (by decide) (by decide) hs
  obtain ⟨v, rfl, r1⟩ := reps1 rs
  have ev := rep_ref.mp r1
  subst ev
  obtain ⟨_, u, hu, ws, rfl, r⟩ := hm.get S.ok
  refine ⟨p, ws, rfl, hu, fun q' hq' => ?_⟩
  obtain ⟨S2, g2⟩ := S.new (o := .lst (ws.map fun kv => kV kv.1)) hq'
  refine q _ _ _ S2 g2 (rep_lst.mpr ⟨q', _, rfl, upd_same, ?_⟩)
  have : ∀ {kvs : List (DK × D)} {ws : List (Key × V)} {F' : Hp}, RepK c.K F kvs ws → Reps c.K F' (kvs.map fun kv => kD kv.1) (ws.map fun kv => kV kv.1) := fun {kvs} => by
    induction kvs with
    | nil => intro ws F' h; rw [repK_nil.mp h]; exact reps_nil.mpr rfl
    | cons kv r ih =>
      intro ws F' h
      obtain ⟨v, ws', rfl, h1, h2⟩ := repK_cons.mp h
      exact reps_cons.mpr ⟨_, _, rfl, kD_rep, ih h2⟩
  exact this r
/-! pop -/
def drp (kvs : List (DK × D)) (j : DK) : List (DK × D) := kvs.filter fun kv => decide (kv.1 ≠ j)
theorem repK_drp {F : Hp} : ∀ {kvs : List (DK × D)} {ws : List (Key × V)}, RepK K F kvs ws → RepK K F (drp kvs j) (dropK ws j.k)
  | [], ws, h => by rw [repK_nil.mp h]; exact repK_nil.mpr rfl
  | (k, x) :: r, ws, h => by
    obtain ⟨v, ws', rfl, h1, h2⟩ := repK_cons.mp h
    have ih := repK_drp h2
    by_cases e : k = j
    · have e2 : k.k = j.k := congrArg DK.k e
      show RepK K F (List.filter _ _) (List.filter _ _)
      rw [List.filter_cons_of_neg (by simp [e]), List.filter_cons_of_neg (by simp [e2])]
      exact ih
    · have e2 : k.k ≠ j.k := fun z => e (DK.k_inj z)
      show RepK K F (List.filter _ _) (List.filter _ _)
      rw [List.filter_cons_of_pos (by simp [e]), List.filter_cons_of_pos (by simp [e2])]
      exact repK_cons.mpr ⟨v, _, rfl, h1, ih⟩
theorem drp_none : ∀ {kvs : List (DK × D)}, look kvs j = none → drp kvs j = kvs
  | [], _ => rfl
  | (k, x) :: r, h => by
    have hk : k ≠ j := fun e => by
      unfold look at h
      simp [e] at h
    have hr : look r j = none := by
      rw [show look ((k, x) :: r) j = if k = j then some x else look r j from rfl, if_neg hk] at h
      exact h
    show List.filter _ _ = _
    rw [List.filter_cons_of_pos (by simp [hk])]
    exact congrArg _ (drp_none hr)
theorem pv_dpop2 {ds0 : List (DK × D)} (ho : PV c o ρ M (.ref p) M1) (h0 : MAt M1 p (.dK ds0)) (ha : PV c a ρ M1 y M2) (hy : y = kD j) (hb : PV c b ρ M2 z M3) (hm : MAt M3 p (.dK kvs)) (hp : MPut M3 p (.dK (drp kvs j)) M4) (hq : (look kvs j).getD z = d)
    (h1 : ∀ env : PySem.Env, attributeBase o "pop" env (eval o env) = eval o env := by intro _; rfl)
    (h2 : ∀ env : PySem.Env, ((backTo cpos (starEach [a, b] env)).all (fun x => !x.1) && (backToKw cpos (keywordEach [] env)).all (fun x => x.1.isSome) && decide (([a, b] : List Expr).length + ([] : List Keyword).length + (if ([] : List Keyword).isEmpty then 0 else 1) < 30)) = true := by intro _; rfl)
    (h3 : (apos.endLine == cpos.line) = true := by rfl) (h4 : ∀ env : PySem.Env, backTo cpos (starEach [a, b] env) = [(false, eval a env), (false, eval b env)] := by intro _; rfl) : PV c (.Call (.Attribute o "pop" apos) [a, b] [] cpos) ρ M d M4 := .mk fun hE => by
  subst hy hq
  obtain ⟨to, o1, o2⟩ := ho.out hE
  obtain ⟨ta, a1, a2⟩ := ha.out hE
  obtain ⟨tb, b1, b2⟩ := hb.out hE
  refine ⟨tDPop2 to ta tb, fun X hX => pe_dpop2 (o1 X hX) (a1 X hX) (b1 X hX) ⟨h1 _, h2 _, h3, h4 _⟩, fun F σ H S L Q q => o2 F σ H S L _ fun F1 H1 v x M1' ⟨e1, e2⟩ S1 g1 p1 => ?_⟩
  subst e1 e2
  have ep := rep_ref.mp p1
  subst ep
  obtain ⟨_, u0, hu0, ws0, rfl, _⟩ := h0.get S1.ok
  refine ⟨p, rfl, .inl ⟨ws0, .inl hu0⟩, a2 F1 σ H1 S1 (L.mono g1.ff) _ fun F2 H2 w y M2' ⟨e1, e2⟩ S2 g2 p2 => ?_⟩
  subst e1 e2
  refine b2 F2 σ H2 S2 (L.mono (g1.ff.trans g2.ff)) _ fun F3 H3 u y M3' ⟨e1, e2⟩ S3 g3 p3 => ?_
  subst e1 e2
  obtain ⟨_, uu, hu, ws, rfl, r⟩ := hm.get S3.ok
  refine ⟨ws, j.k, hu, rep_kD (p2.mono g3.ff), fun v' hv' => ?_, fun hn => ?_⟩
  · cases e : look kvs j with
    | none => rw [r.look_none e] at hv'; cases hv'
    | some x' =>
      obtain ⟨v2, h2, rv⟩ := r.look_some e
      rw [h2] at hv'
      cases hv'
      obtain ⟨S4, g4⟩ := S3.put hp (u := .dK (dropK ws j.k)) ⟨_, rfl, repK_drp r⟩
      exact q _ _ _ x' _ ⟨by rw [e]; rfl, rfl⟩ S4 (g1.trans (g2.trans (g3.trans g4))) (rv.mono g4.ff)
  · cases e : look kvs j with
    | some x' =>
      obtain ⟨v2, h2, rv⟩ := r.look_some e
      rw [h2] at hn; cases hn
    | none =>
      rw [drp_none e] at hp
      obtain ⟨M'', hs, es⟩ := MPut.self hm
      have := hp.inj S3.ok.nodup _ hs
      subst es this
      exact q _ _ _ _ _ ⟨by rw [e]; rfl, rfl⟩ S3 (g1.trans (g2.trans g3)) p3
/-! update -/
def mrg (kvs more : List (DK × D)) : List (DK × D) := more.foldl (fun acc kv => put acc kv.1 kv.2) kvs
def mrgK (ks ms : List (Key × V)) : List (Key × V) := ms.foldl (fun acc kv => putK acc kv.1 kv.2) ks
theorem repK_mrg {F : Hp} : ∀ {more : List (DK × D)} {ms : List (Key × V)} {kvs : List (DK × D)} {ks : List (Key × V)}, RepK K F more ms → RepK K F kvs ks → RepK K F (mrg kvs more) (mrgK ks ms)
  | [], ms, kvs, ks, h, h2 => by rw [repK_nil.mp h]; exact h2
  | (k, x) :: r, ms, kvs, ks, h, h2 => by
    obtain ⟨v, ws', rfl, h3, h4⟩ := repK_cons.mp h
    exact repK_mrg (kvs := put kvs k x) (ks := putK ks k.k v) h4 (h2.put h3)
theorem kv_mrg : ∀ {ms : List (Key × V)} {us : List (Key × Value)} {ks : List (Key × V)} {vs : List (Key × Value)}, KV ms us → KV ks vs → KV (mrgK ks ms) (merged vs us)
  | _, _, _, _, .nil, h2 => h2
  | _, _, ks, vs, @Paired.cons _ _ _ x y _ _ h h1, h2 => by
    obtain ⟨k, v⟩ := x
    obtain ⟨k', u⟩ := y
    obtain ⟨e, r⟩ := h
    cases e
    exact kv_mrg (ks := putK ks k v) (vs := stored vs k u) h1 (h2.put k r)
def rUpd : V → List V → Hp → VK → Prop := fun x xs H Q => ∃ a b ks ms, x = .ref a ∧ xs = [.ref b] ∧ a ≠ b ∧ H a = some (.dK ks) ∧ Rd H b (.dK ms) ∧ ks.length + ms.length ≤ sizeLine ∧ (mrgK ks ms).length ≤ sizeLine ∧ Q .non (upd H a (.dK (mrgK ks ms)))
theorem mt_update {X : Cx} : MtR X "dict.update" rUpd := by
  intro pins s σ H x xs v us Q I rx rv h
  obtain ⟨a, b, ks, ms, rfl, rfl, hne, ha, hb, hz, hz2, q⟩ := h
  cases (show v = Value.ref a from rx)
  obtain ⟨u, rfl, ru⟩ := rv.one
  cases (show u = Value.ref b from ru)
  obtain ⟨l1, d1, vs1, r1, dd1⟩ := dk_rd I.hok (.inl ha)
  obtain ⟨l2, d2, vs2, r2, dd2⟩ := dk_rd I.hok hb
  refine call_meetsIn PySem.F.slot_dict_update dd1.typeIs PySem.F.entry_dict_update (PySem.F.args_dict_update_2 _ _) (meets_dict_update (mixKind X.prog X.w) a b hne d2) ⟨vs1, vs2, dd1, dd2, by rw [← r1.length, ← r2.length]; exact hz, fun h' dd' _ hs => ?_⟩
  refine ⟨.non, _, d_write (t' := s.toks) I (by rw [ha]; exact True.intro) hs (let ⟨q, _, _, hq, _⟩ := dd'; ⟨q, hq⟩) (dk_new hz2 d1 (kv_mrg r2 r1) dd'), rfl, q⟩
theorem mrg_len : ∀ {more kvs : List (DK × D)}, (mrg kvs more).length ≤ kvs.length + more.length
  | [], kvs => Nat.le_refl _
  | (k, x) :: r, kvs => by
    have h1 := mrg_len (more := r) (kvs := put kvs k x)
    have h2 : (put kvs k x).length ≤ kvs.length + 1 := by
      unfold put
      split
      · rw [List.length_map]; exact Nat.le_succ _
      · rw [List.length_append]; exact Nat.le_refl _
    show (mrg (put kvs k x) r).length ≤ _
    rw [List.length_cons]; omega
/-- d.update(a dict) -/
theorem pv_update {ds0 : List (DK × D)} (ho : PV c o ρ M (.ref p) M1) (h0 : MAt M1 p (.dK ds0)) (ha : PV c e ρ M1 (.dct more) M2) (hm : MAt M2 p (.dK kvs)) (hp : MPut M2 p (.dK (mrg kvs more)) M3) (hl : kvs.length + more.length ≤ sizeLine)
    (hbase : ∀ env : PySem.Env, attributeBase o "update" env (eval o env) = eval o env := by intro _; rfl)
    (hfew : ∀ env : PySem.Env, ((backTo cpos (starEach [e] env)).all (fun x => !x.1) && (backToKw cpos (keywordEach [] env)).all (fun x => x.1.isSome) && decide (([e] : List Expr).length + ([] : List Keyword).length + (if ([] : List Keyword).isEmpty then 0 else 1) < 30)) = true := by intro _; rfl)
    (hline : (apos.endLine == cpos.line) = true := by rfl) (hs : Pl1 e := by intro _; rfl) (hpl : ∀ env : PySem.Env, (backTo cpos (starEach [] env)).any (·.1) = false := by intro _; rfl) : PV c (.Call (.Attribute o "update" apos) [e] [] cpos) ρ M .non M3 := .mk fun hE => by
  obtain ⟨to, o1, o2⟩ := ho.out hE
  obtain ⟨te, a1, a2⟩ := ha.out hE
  refine ⟨tBM c.K "dict" rUpd to (tCons te tNil), fun X hX => by rw [← hX.K]; exact pe_bm PySem.F.plainAttrs_dict PySem.F.slot_dict_update PySem.F.type_dict_update mt_update (o1 X hX) (pa_cons (a1 X hX) pa_nil (hs _)) (hbase _) (hfew _) hline (hs _) (hpl _),
    fun F σ H S L Q q => o2 F σ H S L _ fun F1 H1 v x M1' ⟨e1, e2⟩ S1 g1 p1 => ?_⟩
  subst e1 e2
  have ep := rep_ref.mp p1
  subst ep
  obtain ⟨_, u0, hu0, ws0, rfl, _⟩ := h0.get S1.ok
  refine ⟨.inr (.inr (.inl ⟨rfl, .inl ⟨ws0, hu0⟩⟩)), a2 F1 σ H1 S1 (L.mono g1.ff) _ fun F2 H2 w y M2' ⟨e1, e2⟩ S2 g2 p2 => ?_⟩
  subst e1 e2
  obtain ⟨hF, u, hu, ws, rfl, r⟩ := hm.get S2.ok
  obtain ⟨b, ms, rfl, ⟨od, hb⟩, r2⟩ := rep_dct.mp p2
  obtain ⟨S3, g3⟩ := S2.put hp (u := .dK (mrgK ws ms)) ⟨_, rfl, repK_mrg r2 r⟩
  have hlen := (repK_mrg r2 r).len
  refine ⟨p, b, ws, ms, rfl, rfl, (fun z => by subst z; rw [hb] at hF; cases hF), hu, .inr ⟨od, S2.fh _ _ hb⟩, by rw [r.len, r2.len]; exact hl, by rw [hlen]; exact Nat.le_trans mrg_len hl, q _ _ _ _ _ ⟨rfl, rfl⟩ S3 (g1.trans (g2.trans g3)) (rep_non.mpr rfl)⟩
/-! chains -/
theorem pb_chain {op op' : CmpOp} {k l : Bool} (ha : PV c a ρ M x M1) (hb : PV c b ρ M1 y M2) (ho : CmpD c op x y M2 (.bl k) M2) (hc : k = true → PV c c0 ρ M2 z M2) (ho' : k = true → CmpD c op' y z M2 (.bl l) M2)
    (hm : lastMarks [op, op'] [b, c0] = false := by with_unfolding_all rfl) : PB c (.Compare a [op, op'] [b, c0] pos) ρ M (k && l) M2 := .mk fun hE => by
  obtain ⟨ta, a1, a2⟩ := ha.out hE
  obtain ⟨tb, b1, b2⟩ := hb.out hE
  obtain ⟨r, o1, o2⟩ := ho.out
  by_cases hk : k = true
  · obtain ⟨tc, c1, c2⟩ := (hc hk).out hE
    obtain ⟨r', o1', o2'⟩ := (ho' hk).out
    subst hk
    refine ⟨tTest (tChain r r' ta tb tc), fun X hX => pt_chain (o1 X hX) (o1' X hX) (a1 X hX) (b1 X hX) (c1 X hX) hm, fun F σ H S L Q q => a2 F σ H S L _ fun F1 H1 v x' M1' ⟨e1, e2⟩ S1 g1 p1 => ?_⟩
    subst e1 e2
    refine b2 F1 σ H1 S1 (L.mono g1.ff) _ fun F2 H2 w y' M2' ⟨e1, e2⟩ S2 g2 p2 => ?_
    subst e1 e2
    refine o2 F2 H2 v w S2 (p1.mono g2.ff) p2 _ fun F3 H3 u S3 g3 p3 => ⟨true, rep_bl.mp p3, ?_⟩
    rw [if_pos rfl]
    refine c2 F3 σ H3 S3 (L.mono (g1.ff.trans (g2.ff.trans g3.ff))) _ fun F4 H4 w' z' M4' ⟨e1, e2⟩ S4 g4 p4 => ?_
    subst e1 e2
    refine o2' F4 H4 w w' S4 ((p2.mono g3.ff).mono g4.ff) p4 _ fun F5 H5 u5 S5 g5 p5 => ⟨l, rep_bl.mp p5, q F5 H5 _ _ ⟨by simp, rfl⟩ S5 (g1.trans (g2.trans (g3.trans (g4.trans g5))))⟩
  · have hk' : k = false := by simpa using hk
    subst hk'
    refine ⟨tTest (tChain r (fun _ _ _ _ => False) ta tb (fun _ _ _ => False)), fun X hX => pt_chain (o1 X hX) (fun _ _ _ _ _ _ _ _ _ _ _ _ h => h.elim) (a1 X hX) (b1 X hX) pe_no hm, fun F σ H S L Q q => a2 F σ H S L _ fun F1 H1 v x' M1' ⟨e1, e2⟩ S1 g1 p1 => ?_⟩
    subst e1 e2
    refine b2 F1 σ H1 S1 (L.mono g1.ff) _ fun F2 H2 w y' M2' ⟨e1, e2⟩ S2 g2 p2 => ?_
    subst e1 e2
    refine o2 F2 H2 v w S2 (p1.mono g2.ff) p2 _ fun F3 H3 u S3 g3 p3 => ⟨false, rep_bl.mp p3, ?_⟩
    rw [if_neg (by simp)]
    exact ⟨false, rfl, q F3 H3 _ _ ⟨by simp, rfl⟩ S3 (g1.trans (g2.trans g3))⟩
/-- a, b, c = x, y, z: three locals -/
theorem ss_par3 {q1 q2 q3 q4 q5 : Pos} {x2} {f1 : Option D → Env} (hp1 : Put ρ n1 f1) (h : PNs c [a, b, c0] ρ M fun ds N => ∃ x y z g g', ds = [x, y, z] ∧ Put (f1 (some x)) n2 g ∧ Put (g (some y)) n3 g' ∧ PSsn c sts (g' (some z)) N P)
    (hp2 : ∃ g, Put ρ n2 g) (hp3 : ∃ g, Put ρ n3 g) (hx : c.sc.names.lookup n1 = some .local := by rfl) (hy : c.sc.names.lookup n2 = some .local := by rfl) (hz : c.sc.names.lookup n3 = some .local := by rfl)
    (hne : n1 ≠ n2 := by decide +kernel) (hne2 : n1 ≠ n3 := by decide +kernel) (hne3 : n2 ≠ n3 := by decide +kernel) (hst : [a, b, c0].all notStar = true := by rfl)
    (hw : ∀ env : PySem.Env, env.scope = c.sc → swappedStores [.Tuple [.Name n1 q1, .Name n2 q2, .Name n3 q3] k1 q4] (.Tuple [a, b, c0] x2 q5) env = pure (some [n1, n2, n3]) := by intro env he; unfold swappedStores Env.blockKind Env.kindOf; simp only [he]; rfl)
    (hs : ∀ env : PySem.Env, swapsWithSole [.Tuple [.Name n1 q1, .Name n2 q2, .Name n3 q3] k1 q4] (.Tuple [a, b, c0] x2 q5) pos.line env = pure false := by intro _; rfl) : PSsn c (.Assign [.Tuple [.Name n1 q1, .Name n2 q2, .Name n3 q3] k1 q4] (.Tuple [a, b, c0] x2 q5) pos :: sts) ρ M P := pss_cons' (.mk fun hE => by
  obtain ⟨i, hi, _⟩ := pg_nm (pos := q1) hp1 (.inl hx) hE
  obtain ⟨g2, hp2⟩ := hp2
  obtain ⟨j, hj, _⟩ := pg_nm (pos := q2) hp2 (.inl hy) hE
  obtain ⟨g3, hp3⟩ := hp3
  obtain ⟨l, hl, _⟩ := pg_nm (pos := q3) hp3 (.inl hz) hE
  have ne : ∀ {i j : Nat} {u v : Str}, c.N[i]? = some u → c.N[j]? = some v → u ≠ v → i ≠ j := fun a b h z => by
    subst z
    rw [a] at b
    exact h (Option.some.inj b)
  refine ⟨tPar3 i j l (starA c [a, b, c0]), fun X hX => ps_par3 hX.calm hX.nd (by rw [hX.N]; exact hi) (by rw [hX.N]; exact hj) (by rw [hX.N]; exact hl) (ne hi hj hne) (ne hi hl hne2) (ne hj hl hne3) (by rw [hX.sc]; exact hx) (by rw [hX.sc]; exact hy) (by rw [hX.sc]; exact hz) (starA_ok hst X hX) (hw _ hX.sc) (hs _), fun F σ H S L D f' => ?_⟩
  refine starA_ev h hE F σ H S L _ fun F' H' vs ds M' r S' gg rs => ?_
  obtain ⟨x, y, z, g, g', e, hpg, hpg', q⟩ := r
  subst e
  obtain ⟨v, ra, rfl, r1, r2⟩ := reps_cons.mp rs
  obtain ⟨w, rb, rfl, r3, r4⟩ := reps_cons.mp r2
  obtain ⟨w', rc, rfl, r5, r6⟩ := reps_cons.mp r4
  rw [reps_nil.mp r6]
  obtain ⟨E1, L1⟩ := put_ok hp1 hE hi (L.mono gg.ff) r1
  obtain ⟨E2, L2⟩ := put_ok hpg E1 hj L1 r3
  obtain ⟨E3, L3⟩ := put_ok hpg' E2 hl L2 r5
  exact ⟨v, w, w', rfl, f'.nx F' H' _ _ M' q E3 S' L3 gg⟩)
/-! max(a list of ints, default = d) -/
def rMaxK (K : PySem.W.Frag) : List V → List V → Hp → VK → Prop := fun vs zs H Q => ∃ (a : Addr) (ns : List Int) (d : Int), vs = [V.ref a] ∧ zs = [V.int d] ∧ SqL K H a (ns.map V.int) ∧ Q (.int (mostD (fun i => ns.getD i 0) ns.length d)) H
theorem crk_max {X : Cx} (hc : X.calm = true) : CallRK X (.builtin "max") ["default"] (rMaxK X.K) := by
  intro pins s σ H vs zs us ws Q I r r2 h
  obtain ⟨a, ns, d, rfl, rfl, hs, q⟩ := h
  obtain ⟨its, rv, hl, _⟩ := I.list hs
  rw [Vals.ref1 r]
  obtain ⟨w, rfl, rw'⟩ := r2.one
  obtain ⟨td, rfl⟩ := (show ∃ t, w = Value.int d t from rw')
  have hlen := rv.length
  rw [List.length_map] at hlen
  refine call_maxD (ns := fun i => ns.getD i 0) (I.ok.hd hc) hl.isList (fun i v hv => ?_) fun t' h' tk hk => ⟨.int _, H, I.kept hk, ⟨_, rfl⟩, ?_⟩
  · obtain ⟨x, hx, rx⟩ := vals_back rv (show its[i]? = some v by simpa using hv)
    rw [List.getElem?_map] at hx
    obtain ⟨n, hn, rfl⟩ := Option.map_eq_some_iff.mp hx
    obtain ⟨t, e⟩ := (show ∃ t, v = Value.int n t from rx)
    exact ⟨t, by rw [e, List.getD_eq_getElem?_getD, hn]; rfl⟩
  · rw [List.size_toArray, ← hlen]; exact q
theorem pv_maxD {ns : List Int} {kp : Pos} (h : PV c a ρ M (.lst (ns.map D.int)) M1) (h2 : PV c b ρ M1 (.int m) M2) (hf : BltF c.K c.mg "max") (hg : GlC c "max" := by rfl)
    (hs : Pl1 a := by intro _; rfl)
    (he : ∀ env : PySem.Env, backTo pos (starEach [a] env) = (false, eval a env) :: backTo pos (starEach [] env) := by intro _; rfl) (hpl : ∀ env : PySem.Env, (backTo pos (starEach [a] env)).any (·.1) = false := by intro _; rfl)
    (hall : ∀ env : PySem.Env, (backToKw pos (keywordEach [⟨some "default", b, kp⟩] env)).all (·.1.isSome) = true := by intro _; rfl) (hnone : ∀ env : PySem.Env, (backToKw pos (keywordEach [⟨some "default", b, kp⟩] env)).any (·.1.isNone) = false := by intro _; rfl) (hks : ∀ env : PySem.Env, (backToKw pos (keywordEach [⟨some "default", b, kp⟩] env)).filterMap (·.1) = [("default" : Str)] := by intro _; rfl) :
    PV c (.Call (.Name "max" p2) [a] [⟨some "default", b, kp⟩] pos) ρ M (.int (mostD (fun i => ns.getD i 0) ns.length m)) M2 := .mk fun hE => by
  obtain ⟨ta, a1, a2⟩ := h.out hE
  obtain ⟨tb, b1, b2⟩ := h2.out hE
  refine ⟨tCKw (rMaxK c.K) (tCons ta tNil) (tCons tb tNil), fun X hX => by rw [← hX.K]; exact pe_callBK (crk_max hX.calm) (hg.gl hX) (by rw [hX.mg]; exact hf.no) boot_max (pa_cons (a1 X hX) pa_nil (hs _)) (pk_cons (b1 X hX) pk_nil) (by decide) (by decide) (he _) (hpl _) (hall _) (hnone _) (hks _), fun F σ H S L Q q => a2 F σ H S L _ fun F1 H1 v x M1' ⟨e1, e2⟩ S1 g1 p1 => ?_⟩
  subst e1 e2
  refine b2 F1 σ H1 S1 (L.mono g1.ff) _ fun F2 H2 w y M2' ⟨e1, e2⟩ S2 g2 p2 => ?_
  subst e1 e2
  obtain ⟨p, vs, rfl, hp, r⟩ := rep_lst.mp (p1.mono g2.ff)
  rw [reps_ints] at r
  subst r
  exact ⟨p, ns, m, rfl, by rw [rep_int.mp p2], SqL.of (S2.fh _ _ hp), q _ _ _ _ _ ⟨rfl, rfl⟩ S2 (g1.trans g2) (rep_int.mpr rfl)⟩
end
end Dl

set_option Elab.async false
set_option linter.all false
set_option maxRecDepth 100000
set_option maxHeartbeats 2000000
/-! Dl: X: deep ==, dict comprehensions, comprehensions of two loops, d[a], d[b] = x, y. -/
namespace Dl
open PySem PySem.Spec PyProof.Rows L2
/-! deep == -/
mutual
def pd : D → PyData
  | .int i => .int i
  | .str s => .str (T s)
  | .lst xs => .list (pds xs)
  | .tup xs => .tuple (pds xs)
  | _ => .none
def pds : List D → List PyData
  | [] => []
  | x :: r => pd x :: pds r
end
mutual
/-- texts, ints, lists and tuples of such, n deep at most -/
def Fl : Nat → D → Prop
  | _, .int _ => True
  | _, .str s => ∀ k ∈ s, k < 1114112
  | n + 1, .lst xs => Fls n xs
  | n + 1, .tup xs => Fls n xs
  | _, _ => False
def Fls : Nat → List D → Prop
  | _, [] => True
  | n, x :: r => Fl n x ∧ Fls n r
end
theorem fls_iff {n : Nat} : ∀ {xs : List D}, Fls n xs ↔ ∀ x ∈ xs, Fl n x
  | [] => by unfold Fls; simp
  | x :: r => by unfold Fls; rw [fls_iff (xs := r)]; simp
section
variable {K : PySem.W.Frag} {F H : Hp} {M : Mem}
mutual
theorem pd_rep (S : Sit K F M H) : ∀ {n : Nat} {d : D} {v : V}, Fl n d → Rep K F d v → Dp K H v (pd d)
  | _, .int i, v, _, r => by rw [rep_int.mp r]; unfold pd; exact .int i
  | _, .str s, v, _, r => by rw [rep_str.mp r]; unfold pd; exact .str _
  | n + 1, .lst xs, v, h, r => by
    obtain ⟨a, vs, rfl, ha, rs⟩ := rep_lst.mp r
    unfold Fl at h
    unfold pd
    exact .lst (SqL.of (S.fh _ _ ha)) (pds_rep S h rs)
  | n + 1, .tup xs, v, h, r => by
    obtain ⟨a, vs, rfl, ha, rs⟩ := rep_tup.mp r
    unfold Fl at h
    unfold pd
    exact .tup (sqt_up S ha) (pds_rep S h rs)
  | 0, .lst _, _, h, _ => by unfold Fl at h; exact h.elim
  | 0, .tup _, _, h, _ => by unfold Fl at h; exact h.elim
  | _, .non, _, h, _ => by unfold Fl at h; exact h.elim
  | _, .bl _, _, h, _ => by unfold Fl at h; exact h.elim
  | _, .ref _, _, h, _ => by unfold Fl at h; exact h.elim
  | _, .ty _, _, h, _ => by unfold Fl at h; exact h.elim
  | _, .arr _, _, h, _ => by unfold Fl at h; exact h.elim
  | _, .dct _, _, h, _ => by unfold Fl at h; exact h.elim
  | _, .dcT _, _, h, _ => by unfold Fl at h; exact h.elim
  | _, .obj _ _, _, h, _ => by unfold Fl at h; exact h.elim
theorem pds_rep (S : Sit K F M H) : ∀ {n : Nat} {xs : List D} {vs : List V}, Fls n xs → Reps K F xs vs → DpAll K H vs (pds xs)
  | _, [], vs, _, r => by rw [reps_nil.mp r]; unfold pds; exact .nil
  | n, x :: xs, vs, h, r => by
    obtain ⟨v, r', rfl, r1, r2⟩ := reps_cons.mp r
    unfold Fls at h
    unfold pds
    exact .cons (pd_rep S h.1 r1) (pds_rep S h.2 r2)
end
mutual
theorem pd_can : ∀ {n : Nat} {d : D}, Fl n d → (pd d).canLay0 = true ∧ (pd d).depth ≤ n
  | _, .int i, _ => by unfold pd; simp [PyData.canLay0, PyData.depth]
  | _, .str s, h => by
    unfold Fl at h
    unfold pd
    refine ⟨?_, by simp [PyData.depth]⟩
    unfold PyData.canLay0 PyData.strOk
    simpa using h
  | n + 1, .lst xs, h => by
    unfold Fl at h
    unfold pd
    have := pds_can h
    exact ⟨by unfold PyData.canLay0; exact this.1, by unfold PyData.depth; exact Nat.succ_le_succ this.2⟩
  | n + 1, .tup xs, h => by
    unfold Fl at h
    unfold pd
    have := pds_can h
    exact ⟨by unfold PyData.canLay0; exact this.1, by unfold PyData.depth; exact Nat.succ_le_succ this.2⟩
  | 0, .lst _, h => by unfold Fl at h; exact h.elim
  | 0, .tup _, h => by unfold Fl at h; exact h.elim
  | _, .non, h => by unfold Fl at h; exact h.elim
  | _, .bl _, h => by unfold Fl at h; exact h.elim
  | _, .ref _, h => by unfold Fl at h; exact h.elim
  | _, .ty _, h => by unfold Fl at h; exact h.elim
  | _, .arr _, h => by unfold Fl at h; exact h.elim
  | _, .dct _, h => by unfold Fl at h; exact h.elim
  | _, .dcT _, h => by unfold Fl at h; exact h.elim
  | _, .obj _ _, h => by unfold Fl at h; exact h.elim
theorem pds_can : ∀ {n : Nat} {xs : List D}, Fls n xs → PyData.canLayAll0 (pds xs) = true ∧ PyData.depthAll (pds xs) ≤ n
  | _, [], _ => by unfold pds; simp [PyData.canLayAll0, PyData.depthAll]
  | n, x :: xs, h => by
    unfold Fls at h
    have h1 := pd_can h.1
    have h2 := pds_can h.2
    unfold pds
    unfold PyData.canLayAll0 PyData.depthAll
    exact ⟨by rw [h1.1, h2.1]; rfl, Nat.max_le.mpr ⟨h1.2, h2.2⟩⟩
end
end
mutual
theorem pd_eqv : ∀ {n m : Nat} {x y : D}, Fl n x → Fl m y → (PyData.eqv (pd x) (pd y) = true ↔ x = y)
  | _, _, .int i, .int j, _, _ => by unfold pd PyData.eqv; simp
  | _, _, .str s, .str t, _, _ => by unfold pd PyData.eqv; simp [T_eq]
  | n + 1, m + 1, .lst xs, .lst ys, h1, h2 => by
    unfold Fl at h1 h2
    unfold pd PyData.eqv
    rw [pds_eqv h1 h2]
    simp
  | n + 1, m + 1, .tup xs, .tup ys, h1, h2 => by
    unfold Fl at h1 h2
    unfold pd PyData.eqv
    rw [pds_eqv h1 h2]
    simp
  | _, _, .int _, .str _, _, _ => by unfold pd PyData.eqv; simp
  | _, _, .int _, .lst _, _, _ => by unfold pd PyData.eqv; simp
  | _, _, .int _, .tup _, _, _ => by unfold pd PyData.eqv; simp
  | _, _, .str _, .int _, _, _ => by unfold pd PyData.eqv; simp
  | _, _, .str _, .lst _, _, _ => by unfold pd PyData.eqv; simp
  | _, _, .str _, .tup _, _, _ => by unfold pd PyData.eqv; simp
  | _, _, .lst _, .int _, _, _ => by unfold pd PyData.eqv; simp
  | _, _, .lst _, .str _, _, _ => by unfold pd PyData.eqv; simp
  | _, _, .lst _, .tup _, _, _ => by unfold pd PyData.eqv; simp
  | _, _, .tup _, .int _, _, _ => by unfold pd PyData.eqv; simp
  | _, _, .tup _, .str _, _, _ => by unfold pd PyData.eqv; simp
  | _, _, .tup _, .lst _, _, _ => by unfold pd PyData.eqv; simp
  | 0, _, .lst _, .lst _, h, _ => by unfold Fl at h; exact h.elim
  | _ + 1, 0, .lst _, .lst _, _, h => by unfold Fl at h; exact h.elim
  | 0, _, .tup _, .tup _, h, _ => by unfold Fl at h; exact h.elim
  | _ + 1, 0, .tup _, .tup _, _, h => by unfold Fl at h; exact h.elim
  | _, _, .non, _, h, _ => by unfold Fl at h; exact h.elim
  | _, _, .bl _, _, h, _ => by unfold Fl at h; exact h.elim
  | _, _, .ref _, _, h, _ => by unfold Fl at h; exact h.elim
  | _, _, .ty _, _, h, _ => by unfold Fl at h; exact h.elim
  | _, _, .arr _, _, h, _ => by unfold Fl at h; exact h.elim
  | _, _, .dct _, _, h, _ => by unfold Fl at h; exact h.elim
  | _, _, .dcT _, _, h, _ => by unfold Fl at h; exact h.elim
  | _, _, .obj _ _, _, h, _ => by unfold Fl at h; exact h.elim
  | _, _, _, .non, _, h => by unfold Fl at h; exact h.elim
  | _, _, _, .bl _, _, h => by unfold Fl at h; exact h.elim
  | _, _, _, .ref _, _, h => by unfold Fl at h; exact h.elim
  | _, _, _, .ty _, _, h => by unfold Fl at h; exact h.elim
  | _, _, _, .arr _, _, h => by unfold Fl at h; exact h.elim
  | _, _, _, .dct _, _, h => by unfold Fl at h; exact h.elim
  | _, _, _, .dcT _, _, h => by unfold Fl at h; exact h.elim
  | _, _, _, .obj _ _, _, h => by unfold Fl at h; exact h.elim
theorem pds_eqv : ∀ {n m : Nat} {xs ys : List D}, Fls n xs → Fls m ys → (PyData.eqvAll (pds xs) (pds ys) = true ↔ xs = ys)
  | _, _, [], [], _, _ => by unfold pds PyData.eqvAll; simp
  | _, _, [], _ :: _, _, _ => by unfold pds PyData.eqvAll; simp
  | _, _, _ :: _, [], _, _ => by unfold pds PyData.eqvAll; simp
  | n, m, x :: xs, y :: ys, h1, h2 => by
    unfold Fls at h1 h2
    unfold pds PyData.eqvAll
    rw [Bool.and_eq_true, pd_eqv h1.1 h2.1, pds_eqv h1.2 h2.2]
    simp
end
section
variable {c : Cfg} {M : Mem} {x y : D} {xs ys : List D} {p : Addr}
theorem shaped_of {n : Nat} {d : D} (h : Fl n d) (hn : n ≤ 64) : SeqAt.shaped (pd d) = true := by
  obtain ⟨h1, h2⟩ := pd_can h
  unfold SeqAt.shaped
  rw [h1]
  simp; omega
/-- x stands for this -/
def PdAt (K : PySem.W.Frag) (x : D) (M : Mem) (d : D) : Prop := ∀ F H v, Sit K F M H → Rep K F x v → Dp K H v (pd d)
theorem pdat {K : PySem.W.Frag} {n : Nat} (h : Fl n x) : PdAt K x M x := fun F H v S r => pd_rep S h r
theorem pdatM {K : PySem.W.Frag} {n : Nat} (h : Fls n xs) (hm : MAt M p (.lst xs)) : PdAt K (.ref p) M (.lst xs) := fun F H v S r => by
  obtain ⟨_, u, hu, vs, rfl, rs⟩ := hm.get S.ok
  rw [rep_ref.mp r]
  unfold pd
  exact .lst (SqL.of hu) (pds_rep S h rs)
theorem o_eqP {n m : Nat} {k : Bool} {d e : D} (hx : PdAt c.K x M d) (hy : PdAt c.K y M e) (h1 : Fl n d) (h2 : Fl m e) (hk : k = true ↔ d = e) (hn : n ≤ 64 := by omega) (hm : m ≤ 64 := by omega) : CmpD c .Eq x y M (.bl k) M := .mk <| .of (r := rEqD c.K) (fun X hX => by rw [← hX.K]; exact op_eqD hX.room.units) fun F H v w S r1 r2 => by
  refine ⟨_, rep_bl.mpr rfl, fun Q q => ⟨pd d, pd e, hx F H v S r1, hy F H w S r2, shaped_of h1 hn, shaped_of h2 hm, ?_⟩⟩
  have : PyData.eqv (pd d) (pd e) = k := Bool.eq_iff_iff.mpr (by rw [pd_eqv h1 h2, hk])
  rw [this]; exact q
theorem o_neP {n m : Nat} {k : Bool} {d e : D} (hx : PdAt c.K x M d) (hy : PdAt c.K y M e) (h1 : Fl n d) (h2 : Fl m e) (hk : k = true ↔ d ≠ e) (hn : n ≤ 64 := by omega) (hm : m ≤ 64 := by omega) : CmpD c .NotEq x y M (.bl k) M := .mk <| .of (r := rNeD c.K) (fun X hX => by rw [← hX.K]; exact op_neD hX.room.units) fun F H v w S r1 r2 => by
  refine ⟨_, rep_bl.mpr rfl, fun Q q => ⟨pd d, pd e, hx F H v S r1, hy F H w S r2, shaped_of h1 hn, shaped_of h2 hm, ?_⟩⟩
  have : (!PyData.eqv (pd d) (pd e)) = k := Bool.eq_iff_iff.mpr (by
    rw [hk, Bool.not_eq_true', ← Bool.not_eq_true, pd_eqv h1 h2])
  rw [this]; exact q
end
end Dl

set_option Elab.async false
set_option linter.all false
set_option maxRecDepth 100000
set_option maxHeartbeats 4000000
/-! Dl: Y: dict comprehensions, comprehensions of two loops. -/
namespace Dl
open PySem PySem.Spec PyProof.Rows L2
/-- while something new at Dd grows: all else goes on as it does -/
structure Bld (K : PySem.W.Frag) (M : Mem) (F1 H1 : Hp) (Dd : Addr) (F H : Hp) (o : HO) : Prop where
  sit : Sit K F M H
  free : F Dd = none
  out : Dd ∉ adr M
  at_ : H Dd = some o
  go : Go M F1 H1 M F (fun b => if b = Dd then H1 Dd else H b)
section
variable {K : PySem.W.Frag} {M : Mem} {F1 H1 F H F' H' : Hp} {Dd : Addr} {o o' : HO}
theorem Bld.start (S : Sit K F1 M H1) (hD : H1 Dd = none) : Bld K M F1 H1 Dd F1 (upd H1 Dd o) o := by
  have hF1 : F1 Dd = none := S.fh.free hD
  refine ⟨⟨fun b u e => by rw [upd_ne (ne_of_none e hF1)]; exact S.fh b u e, S.ok.step (Same.refl _) (fun p hp => (S.ok.out hp).1) fun p hp u e => by rw [upd_ne (ne_of_none e hD)]; exact e⟩, hF1, fun z => (S.ok.out z).2 hD, upd_same, ?_⟩
  have : (fun b => if b = Dd then H1 Dd else upd H1 Dd o b) = H1 := by
    funext b
    by_cases hb : b = Dd
    · rw [if_pos hb, hb]
    · rw [if_neg hb, upd_ne hb]
  rw [this]; exact Go.refl
theorem Bld.step (B : Bld K M F1 H1 Dd F H o) (hD : H1 Dd = none) (S : Sit K F' M H') (g : Go M F H M F' H') : Bld K M F1 H1 Dd F' H' o := by
  have h1 : H' Dd = some o := g.hh Dd _ B.out B.at_
  have h2 : F' Dd = none := g.nw Dd (by rw [B.at_]; simp) B.free B.out
  refine ⟨S, h2, B.out, h1, B.go.trans ⟨g.ff, fun b u hb e => ?_, fun b hb e hn => ?_, fun p hp => (g.nm p hp).imp (fun z => z) fun z => ?_⟩⟩
  · by_cases hbD : b = Dd
    · rw [if_pos hbD] at e ⊢; exact e
    · rw [if_neg hbD] at e ⊢; exact g.hh b u hb e
  · by_cases hbD : b = Dd
    · rw [hbD]; exact h2
    · rw [if_neg hbD] at hb; exact g.nw b hb e hn
  · by_cases hbD : p = Dd
    · rw [if_pos hbD]; exact hD
    · rw [if_neg hbD]; exact z
theorem Bld.upd (B : Bld K M F1 H1 Dd F H o) : Bld K M F1 H1 Dd F (upd H Dd o') o' := by
  refine ⟨⟨fun b w e => by rw [upd_ne (ne_of_none e B.free)]; exact B.sit.fh b w e, B.sit.ok.step (Same.refl _) (fun p hp => (B.sit.ok.out hp).1) fun p hp w e => by rw [upd_ne (ne_mem hp B.out)]; exact e⟩, B.free, B.out, upd_same, ?_⟩
  have : (fun b => if b = Dd then H1 Dd else L2.upd H Dd o' b) = fun b => if b = Dd then H1 Dd else H b := by
    funext b
    by_cases hb : b = Dd
    · rw [if_pos hb, if_pos hb]
    · rw [if_neg hb, if_neg hb, upd_ne hb]
  rw [this]; exact B.go
theorem Bld.fin {mo : MO} (B : Bld K M F1 H1 Dd F H o) (hD : H1 Dd = none) (r : RepM K F mo o) : Sit K F ((Dd, mo) :: M) H ∧ Go M F1 H1 ((Dd, mo) :: M) F H := by
  refine ⟨⟨B.sit.fh, B.free, ⟨_, B.at_, r⟩, B.out, B.sit.ok⟩, B.go.ff, fun b u hb e => ?_, fun b hb e hn => B.go.nw b hb e hn, fun p hp => ?_⟩
  · have h1 := B.go.hh b u hb e
    rw [if_neg (ne_of_none e hD)] at h1
    exact h1
  · rcases List.mem_cons.mp hp with z | z
    · rw [z]; exact .inr hD
    · exact .inl z
end
section
variable {c : Cfg} {ρ ρw ρ' : Env} {M M1 M2 M' : Mem} {pos p2 spos py : Pos} {e a b o tg iter elt kx vx tg1 iter1 : Expr} {ifs ifs1 : List Expr} {scope : Scope} {own : List (Str × Nat)} {f : D → Env → Env → Prop} {xs : List D} {α β : Type} {l : List α} {inj gv : α → D} {gk : α → DK} {t : α → Bool} {P : Post} {sts : List Stmt}
/-- what a dict comprehension makes -/
def dcAcc (l : List α) (t : α → Bool) (gk : α → DK) (gv : α → D) : List (DK × D) := l.foldl (fun acc a => if t a = true then put acc (gk a) (gv a) else acc) []
theorem put_len (kvs : List (DK × D)) (k : DK) (d : D) : (put kvs k d).length ≤ kvs.length + 1 := by
  unfold put
  split
  · rw [List.length_map]; exact Nat.le_succ _
  · rw [List.length_append]; exact Nat.le_refl _
theorem dcAcc_snoc {a : α} : dcAcc (l ++ [a]) t gk gv = if t a = true then put (dcAcc l t gk gv) (gk a) (gv a) else dcAcc l t gk gv := by
  unfold dcAcc; rw [List.foldl_append]; rfl
theorem dcAcc_len : ∀ i, (dcAcc (l.take i) t gk gv).length ≤ (l.take i).length := by
  intro i
  induction i with
  | zero => simp [dcAcc]
  | succ i ih =>
    rw [List.take_add_one]
    cases h : l[i]? with
    | none => simpa using ih
    | some a =>
      show (dcAcc (l.take i ++ [a]) t gk gv).length ≤ (l.take i ++ [a]).length
      rw [dcAcc_snoc, List.length_append]
      rw [List.length_singleton]
      split
      · exact Nat.le_trans (put_len _ _ _) (Nat.succ_le_succ ih)
      · exact Nat.le_succ_of_le ih
structure DcD (c : Cfg) (tg iter kx vx : Expr) (ifs : List Expr) (scope : Scope) (own : List (Str × Nat)) (ρ : Env) (M : Mem) (l : List α) (t : α → Bool) (gk : α → DK) (gv : α → D) (M1 : Mem) : Prop where
  mk ::
  out : ∃ (inj : α → D) (is : List Nat) (f : D → Env → Env → Prop) (ρw : Env), PInM c tg iter ρ M (l.map inj) M1 (fun N => N = M1) ∧ blkC c.N c.sc scope own = true ∧ PGn (c.blk scope) tg is f ∧ (∀ i ∈ is, i ∈ own.map (·.2)) ∧ Wipe ρ own ρw ∧ l.length ≤ sizeLine ∧
    ∀ a ∈ l, ∃ ρ', f (inj a) ρw ρ' ∧ PIf (c.blk scope) ifs ρ' M1 (t a) ∧ (t a = true → PV (c.blk scope) kx ρ' M1 (kD (gk a)) M1 ∧ PV (c.blk scope) vx ρ' M1 (gv a) M1)
theorem pv_dc (h : DcD c tg iter kx vx ifs scope own ρ M l t gk gv M1) (hf : ∀ (env : PySem.Env) x, foldedSetIterable iter env x = pure x := by intro _ _; rfl) : PV c (.DictComp kx vx [⟨tg, iter, ifs, 0⟩] scope pos) ρ M (.dct (dcAcc l t gk gv)) M1 := .mk fun hE => by
  obtain ⟨inj, is, f, ρw, hi, hb, ⟨gt, g1, g2⟩, his, hw, hz, hs⟩ := h.out
  obtain ⟨wi, w1, w2⟩ := hi.out hE
  refine ⟨tFrz (tDc wi gt (starTs (c.blk scope) ifs) (starE (c.blk scope) kx) (starE (c.blk scope) vx) (own.map (·.2))), fun X hX => pe_frz (pe_dc (own := own) hX.calm hX.nd (w1 X hX) (by rw [hX.N, hX.sc]; exact blkOk_by hb) (fun s H C cl fp => g1 _ (blk_has hX s H scope C cl fp)) (fun s H C cl fp => starTs_ok _ (blk_has hX s H scope C cl fp))
    (fun s H C cl fp => starE_ok _ (blk_has hX s H scope C cl fp)) (fun s H C cl fp => starE_ok _ (blk_has hX s H scope C cl fp)) (hf _)), fun F0 σ H0 S0 L0 Q q => w2 F0 σ H0 S0 L0 _ fun F1 H1 J S1 go1 W => ?_⟩
  intro Dd hDd
  refine ⟨fun i m H => m = l.length - i ∧ i ≤ l.length ∧ ∃ F ws, Bld c.K M1 F1 H1 Dd F H (.dK ws) ∧ RepK c.K F (dcAcc (l.take i) t gk gv) ws, ⟨_, rfl, Nat.zero_le _, F1, [], Bld.start S1 hDd, by simp [dcAcc, repK_nil]⟩, ?_⟩
  rintro i m H ⟨rfl, hi, F, ws, B, r⟩
  obtain ⟨Wi, Ws⟩ := W F H M1 B.go.ff B.sit rfl
  by_cases hlt : i < l.length
  · obtain ⟨jg, jy⟩ := Wi i (inj l[i]) (by simp [hlt])
    refine .inr ⟨jg, fun H' => ∃ F ws, Bld c.K M1 F1 H1 Dd F H' (.dK ws) ∧ RepK c.K F (dcAcc (l.take (i + 1)) t gk gv) ws, fun H' x => ⟨l.length - (i + 1), by omega, rfl, hlt, x⟩, fun v H3 y => ?_⟩
    obtain ⟨F3, r3, S3, go3⟩ := jy v H3 y
    have B3 := B.step hDd S3 go3
    obtain ⟨ρ', hf', hif, hel⟩ := hs l[i] (List.getElem_mem hlt)
    obtain ⟨Ew, hwS⟩ := hw.ok (c := c) (K := c.K) (F := F3) hE (lc_own hb)
    obtain ⟨E', k⟩ := g2 _ ρw ρ' hf' Ew
    refine k F3 (wipe σ (own.map (·.2))) H3 M1 v S3 (hwS σ ((L0.mono go1.ff).mono (B.go.ff.trans go3.ff))) r3 _ fun σ2 L2 wq => ?_
    refine ⟨?_, ?_⟩
    · rw [wq _ his, wipe_idem]
    refine pif_ev hif E' F3 σ2 H3 S3 L2 _ fun F4 H4 kk M4 ⟨e1, e2⟩ S4 go4 => ?_
    subst e1 e2
    have B4 := B3.step hDd S4 go4
    have r4 := (r.mono go3.ff).mono go4.ff
    have et : l.take (i + 1) = l.take i ++ [l[i]] := by rw [List.take_add_one]; simp [hlt]
    cases hk : t l[i] with
    | false =>
      rw [if_neg Bool.false_ne_true]
      refine ⟨F4, ws, B4, ?_⟩
      rw [et, dcAcc_snoc, hk, if_neg Bool.false_ne_true]
      exact r4
    | true =>
      rw [if_pos rfl]
      obtain ⟨hK, hV⟩ := hel hk
      refine starE_ev hK E' F4 σ2 H4 S4 (L2.mono go4.ff) _ fun F5 H5 u d M5 ⟨e1, e2⟩ S5 go5 p5 => ?_
      subst e1 e2
      have B5 := B4.step hDd S5 go5
      refine starE_ev hV E' F5 σ2 H5 S5 (L2.mono (go4.ff.trans go5.ff)) _ fun F6 H6 u2 d2 M6 ⟨e1, e2⟩ S6 go6 p6 => ?_
      subst e1 e2
      have B6 := B5.step hDd S6 go6
      have r6 := (r4.mono go5.ff).mono go6.ff
      refine ⟨ws, (gk l[i]).k, rep_kD p5, B6.at_, ?_, F6, _, B6.upd, ?_⟩
      · have h1 := dcAcc_len (l := l) (t := t) (gk := gk) (gv := gv) i
        rw [List.length_take] at h1
        rw [r.len]; omega
      · rw [et, dcAcc_snoc, hk, if_pos rfl]
        exact r6.put p6
  · have e : i = l.length := by omega
    subst e
    rw [List.take_length] at r
    refine .inl ⟨by rw [← List.length_map (f := inj)]; exact Ws, ?_⟩
    obtain ⟨SD, goD⟩ := B.fin hDd (mo := .dK (dcAcc l t gk gv)) ⟨ws, rfl, r⟩
    refine ⟨Dd, .dK ws, B.at_, True.intro, fun od => ?_⟩
    obtain ⟨sf, S5, g5⟩ := SD.freezeL .here (.frz od (.dK ws))
    exact q _ _ _ _ _ ⟨rfl, rfl⟩ S5 (go1.trans (goD.trans g5)) (rep_dct.mpr ⟨Dd, ws, rfl, ⟨od, upd_same⟩, r.mono sf⟩)
/-! two loops -/
/-- [e for a in l for b in m a if ..] -/
structure Lc2D (c : Cfg) (tg iter tg1 iter1 elt : Expr) (ifs1 : List Expr) (scope : Scope) (own : List (Str × Nat)) (ρ : Env) (M : Mem) (l : List α) (m : α → List β) (t : α → β → Bool) (g : α → β → D) (M1 : Mem) : Prop where
  mk ::
  out : ∃ (inj : α → D) (inj1 : β → D) (is is1 : List Nat) (own1 : List (Str × Nat)) (f f1 : D → Env → Env → Prop) (ρw : Env), PInM c tg iter ρ M (l.map inj) M1 (fun N => N = M1) ∧ blkC c.N c.sc scope own = true ∧ PGn (c.blk scope) tg is f ∧ PGn (c.blk scope) tg1 is1 f1 ∧ (∀ i ∈ is, i ∈ own.map (·.2)) ∧ (∀ i ∈ is1, i ∈ own1.map (·.2)) ∧ (∀ p ∈ own1, p ∈ own) ∧ Wipe ρ own ρw ∧ (l.flatMap m).length ≤ sizeLine ∧
    ∀ a ∈ l, ∃ ρ' ρ1, f (inj a) ρw ρ' ∧ Wipe ρ' own1 ρ1 ∧ PInM (c.blk scope) tg1 iter1 ρ' M1 ((m a).map inj1) M1 (fun N => N = M1) ∧ ∀ b ∈ m a, ∃ ρ2, f1 (inj1 b) ρ1 ρ2 ∧ PIf (c.blk scope) ifs1 ρ2 M1 (t a b) ∧ (t a b = true → PV (c.blk scope) elt ρ2 M1 (g a b) M1)
def lc2Of (l : List α) (m : α → List β) (t : α → β → Bool) (g : α → β → D) : List D := l.flatMap fun a => ((m a).filter (t a)).map (g a)
theorem lc2_len {l : List α} {m : α → List β} {t : α → β → Bool} {g : α → β → D} : (lc2Of l m t g).length ≤ (l.flatMap m).length := by
  induction l with
  | nil => simp [lc2Of]
  | cons a l ih =>
    unfold lc2Of at *
    rw [List.flatMap_cons, List.flatMap_cons, List.length_append, List.length_append, List.length_map]
    have := List.length_filter_le (t a) (m a)
    omega
theorem flat_take {γ : Type} {f : α → List γ} {l : List α} {i : Nat} (h : i < l.length) : l.flatMap f = (l.take i).flatMap f ++ f l[i] ++ (l.drop (i + 1)).flatMap f := by
  have e : l = l.take i ++ l[i] :: l.drop (i + 1) := by rw [← List.drop_eq_getElem_cons h, List.take_append_drop]
  conv => lhs; rw [e]
  rw [List.flatMap_append, List.flatMap_cons, List.append_assoc]
theorem pv_lc2 {m : α → List β} {t : α → β → Bool} {g : α → β → D} (h : Lc2D c tg iter tg1 iter1 elt ifs1 scope own ρ M l m t g M1) (hf : ∀ (env : PySem.Env) x, foldedSetIterable iter env x = pure x := by intro _ _; rfl) (hf1 : ∀ (env : PySem.Env) x, foldedSetIterable iter1 env x = pure x := by intro _ _; rfl) : PV c (.ListComp elt [⟨tg, iter, [], 0⟩, ⟨tg1, iter1, ifs1, 0⟩] scope pos) ρ M (.lst (lc2Of l m t g)) M1 := .mk fun hE => by
  obtain ⟨inj, inj1, is, is1, own1, f, f1, ρw, hi, hb, ⟨gt, g1, g2⟩, ⟨gt1, k1, k2⟩, his, his1, hown, hw, hz, hs⟩ := h.out
  obtain ⟨wi, w1, w2⟩ := hi.out hE
  let wi1 : TI := fun σ H R => ∃ w : TI, (∀ X, (c.blk scope).Has X → PI X tg1 iter1 w) ∧ w σ H R
  have hwi1 : ∀ X, (c.blk scope).Has X → PI X tg1 iter1 wi1 := fun X hX => ⟨fun pins s σ H R I ⟨w, a, b⟩ => (a X hX).run pins s σ H R I b⟩
  refine ⟨tLc2 wi gt (starTs (c.blk scope) []) wi1 gt1 (starTs (c.blk scope) ifs1) (starE (c.blk scope) elt) (own.map (·.2)) (own1.map (·.2)), fun X hX => pe_lc2 (own := own) hX.calm hX.nd (w1 X hX) (by rw [hX.N, hX.sc]; exact blkOk_by hb) (fun i hi => by
    obtain ⟨p, hp, rfl⟩ := List.mem_map.mp hi
    exact List.mem_map.mpr ⟨p, hown p hp, rfl⟩) (fun s H C cl fp => g1 _ (blk_has hX s H scope C cl fp)) (fun s H C cl fp => starTs_ok _ (blk_has hX s H scope C cl fp)) (fun s H C cl fp => hwi1 _ (blk_has hX s H scope C cl fp)) (fun s H C cl fp => k1 _ (blk_has hX s H scope C cl fp)) (fun s H C cl fp => starTs_ok _ (blk_has hX s H scope C cl fp))
    (fun s H C cl fp => starE_ok _ (blk_has hX s H scope C cl fp)) (hf _) hf1, fun F0 σ H0 S0 L0 Q q => w2 F0 σ H0 S0 L0 _ fun F1 H1 J S1 go1 W => ?_⟩
  intro Dd hDd
  refine ⟨fun i m' H => m' = l.length - i ∧ i ≤ l.length ∧ ∃ F vs, Bld c.K M1 F1 H1 Dd F H (.lst vs) ∧ Reps c.K F (lc2Of (l.take i) m t g) vs, ⟨_, rfl, Nat.zero_le _, F1, [], Bld.start S1 hDd, by simp [lc2Of, reps_nil]⟩, ?_⟩
  rintro i m' H ⟨rfl, hi, F, vs, B, r⟩
  obtain ⟨Wi, Ws⟩ := W F H M1 B.go.ff B.sit rfl
  by_cases hlt : i < l.length
  · obtain ⟨jg, jy⟩ := Wi i (inj l[i]) (by simp [hlt])
    refine .inr ⟨jg, fun H' => ∃ F vs, Bld c.K M1 F1 H1 Dd F H' (.lst vs) ∧ Reps c.K F (lc2Of (l.take (i + 1)) m t g) vs, fun H' x => ⟨l.length - (i + 1), by omega, rfl, hlt, x⟩, fun v H3 y => ?_⟩
    obtain ⟨F3, r3, S3, go3⟩ := jy v H3 y
    have B3 := B.step hDd S3 go3
    obtain ⟨ρ', ρ1, hf', hw1, hin, hel⟩ := hs l[i] (List.getElem_mem hlt)
    obtain ⟨Ew, hwS⟩ := hw.ok (c := c) (K := c.K) (F := F3) hE (lc_own hb)
    obtain ⟨E', k⟩ := g2 _ ρw ρ' hf' Ew
    refine k F3 (wipe σ (own.map (·.2))) H3 M1 v S3 (hwS σ ((L0.mono go1.ff).mono (B.go.ff.trans go3.ff))) r3 _ fun σ2 L2 wq => ?_
    refine ⟨?_, ?_⟩
    · rw [wq _ his, wipe_idem]
    refine pif_ev (.nil (c := c.blk scope) (ρ := ρ') (M := M1)) E' F3 σ2 H3 S3 L2 _ fun F4 H4 kk M4 ⟨e1, e2⟩ S4 go4 => ?_
    subst e1 e2
    rw [if_pos rfl]
    have B4 := B3.step hDd S4 go4
    have r4 := (r.mono go3.ff).mono go4.ff
    obtain ⟨w1, u1, u2⟩ := hin.out E'
    refine ⟨w1, u1, u2 F4 σ2 H4 S4 (L2.mono go4.ff) _ fun F5 H5 J1 S5 go5 W1 => ?_⟩
    have B5 := B4.step hDd S5 go5
    have et : lc2Of (l.take (i + 1)) m t g = lc2Of (l.take i) m t g ++ ((m l[i]).filter (t l[i])).map (g l[i]) := by
      have e : l.take (i + 1) = l.take i ++ [l[i]] := by rw [List.take_add_one]; simp [hlt]
      rw [e]
      unfold lc2Of
      rw [List.flatMap_append, List.flatMap_cons, List.flatMap_nil, List.append_nil]
    refine ⟨fun j n H => n = (m l[i]).length - j ∧ j ≤ (m l[i]).length ∧ ∃ F vs, Bld c.K M4 F1 H1 Dd F H (.lst vs) ∧ Same F5 F ∧ Reps c.K F (lc2Of (l.take i) m t g ++ (((m l[i]).take j).filter (t l[i])).map (g l[i])) vs, ⟨_, rfl, Nat.zero_le _, F5, vs, B5, Same.refl _, by simpa using r4.mono go5.ff⟩, ?_⟩
    rintro j n H6 ⟨rfl, hj, F6, vs6, B6, sm6, r6⟩
    obtain ⟨Vi, Vs⟩ := W1 F6 H6 M4 sm6 B6.sit rfl
    by_cases hlj : j < (m l[i]).length
    · obtain ⟨jg1, jy1⟩ := Vi j (inj1 (m l[i])[j]) (by simp [hlj])
      refine .inr ⟨jg1, fun H' => ∃ F vs, Bld c.K M4 F1 H1 Dd F H' (.lst vs) ∧ Same F5 F ∧ Reps c.K F (lc2Of (l.take i) m t g ++ (((m l[i]).take (j + 1)).filter (t l[i])).map (g l[i])) vs, fun H' x => ⟨(m l[i]).length - (j + 1), by omega, rfl, hlj, x⟩, fun v H7 y => ?_⟩
      obtain ⟨F7, r7, S7, go7⟩ := jy1 v H7 y
      have B7 := B6.step hDd S7 go7
      obtain ⟨ρ2, hf2, hif, hev⟩ := hel (m l[i])[j] (List.getElem_mem hlj)
      obtain ⟨Ew1, hwS1⟩ := hw1.ok (c := c.blk scope) (K := c.K) (F := F7) E' (fun p hp => lc_own hb p (hown p hp))
      obtain ⟨E2, kk2⟩ := k2 _ ρ1 ρ2 hf2 Ew1
      have L7 : Slots c.K F7 ρ' σ2 := L2.mono (go4.ff.trans (go5.ff.trans (sm6.trans go7.ff)))
      refine kk2 F7 (wipe σ2 (own1.map (·.2))) H7 M4 v S7 (hwS1 σ2 L7) r7 _ fun σ3 L3 wq3 => ?_
      refine ⟨?_, ?_⟩
      · rw [wq3 _ his1, wipe_idem]
      refine pif_ev hif E2 F7 σ3 H7 S7 L3 _ fun F8 H8 kk M8 ⟨e1, e2⟩ S8 go8 => ?_
      subst e1 e2
      have B8 := B7.step hDd S8 go8
      have r8 := (r6.mono go7.ff).mono go8.ff
      have ej : (m l[i]).take (j + 1) = (m l[i]).take j ++ [(m l[i])[j]] := by rw [List.take_add_one]; simp [hlj]
      cases hk : t l[i] (m l[i])[j] with
      | false =>
        rw [if_neg Bool.false_ne_true]
        refine ⟨F8, vs6, B8, sm6.trans (go7.ff.trans go8.ff), ?_⟩
        rw [ej, List.filter_append, List.filter_cons, hk]
        simpa using r8
      | true =>
        rw [if_pos rfl]
        refine starE_ev (hev hk) E2 F8 σ3 H8 S8 (L3.mono go8.ff) _ fun F9 H9 u d M9 ⟨e1, e2⟩ S9 go9 p9 => ?_
        subst e1 e2
        have B9 := B8.step hDd S9 go9
        refine ⟨vs6, B9.at_, ?_, F9, vs6 ++ [u], B9.upd, sm6.trans (go7.ff.trans (go8.ff.trans go9.ff)), ?_⟩
        · rw [r6.len, List.length_append, List.length_map]
          have h1 := lc2_len (l := l.take i) (m := m) (t := t) (g := g)
          have h2 := List.length_filter_le (t l[i]) ((m l[i]).take j)
          rw [List.length_take] at h2
          have h3 := congrArg List.length (flat_take (f := m) hlt)
          rw [List.length_append, List.length_append] at h3
          omega
        · rw [ej, List.filter_append, List.filter_cons, hk, List.map_append, ← List.append_assoc]
          exact (r8.mono go9.ff).snoc p9
    · have e : j = (m l[i]).length := by omega
      subst e
      rw [List.take_length] at r6
      refine .inl ⟨by rw [← List.length_map (f := inj1)]; exact Vs, F6, vs6, B6, ?_⟩
      rw [et]; exact r6
  · have e : i = l.length := by omega
    subst e
    rw [List.take_length] at r
    refine .inl ⟨by rw [← List.length_map (f := inj)]; exact Ws, ?_⟩
    obtain ⟨SD, goD⟩ := B.fin hDd (mo := .lst (lc2Of l m t g)) ⟨vs, rfl, r⟩
    obtain ⟨u, hu, hr, sf, S5, g5⟩ := SD.freeze .here
    obtain ⟨vs', e1, r'⟩ := hr
    subst e1
    exact q _ _ _ _ _ ⟨rfl, rfl⟩ S5 (go1.trans (goD.trans g5)) (rep_lst.mpr ⟨Dd, vs', rfl, upd_same, r'.mono sf⟩)
end
end Dl

set_option Elab.async false
set_option linter.all false
set_option maxRecDepth 100000
set_option maxHeartbeats 2000000
/-! Dl: Z: d[a], d[b] = x, y; s.index(t); defs that give something new; short forms for comprehensions. -/
namespace Dl
open PySem PySem.Spec PyProof.Rows L2
section
variable {c : Cfg} {ρ ρw ρ' : Env} {M M1 M2 M3 M4 M5 M' : Mem} {pos p2 apos cpos spos py : Pos} {e a b o o2 i1 i2 tg iter elt kx vx : Expr} {ifs : List Expr} {scope : Scope} {own : List (Str × Nat)} {xs : List D} {α : Type} {l : List α} {inj g gv : α → D} {gk : α → DK} {t : α → Bool} {P : Post} {sts : List Stmt} {x y z : D} {nm : Str} {i : Nat} {p : Addr} {kvs : List (DK × D)} {j1 j2 : DK} {s r : List Nat} {n : Int}
/-- d[i1], d[i2] = a, b -/
theorem ss_dput2 {q1 q2 q3 q4 : Pos} {x2} (hv : PNs c [a, b] ρ M fun ds N => ∃ x y, ds = [x, y] ∧ PV c o ρ N (.ref p) N ∧ PV c i1 ρ N (kD j1) N ∧ MAt N p (.dK kvs) ∧ kvs.length + 1 < sizeLine ∧ ∃ N1 N2, MPut N p (.dK (put kvs j1 x)) N1 ∧ PV c o2 ρ N1 (.ref p) N1 ∧ PV c i2 ρ N1 (kD j2) N1 ∧ MAt N1 p (.dK (put kvs j1 x)) ∧ MPut N1 p (.dK (put (put kvs j1 x) j2 y)) N2 ∧ PSsn c sts ρ N2 P)
    (hst : [a, b].all notStar = true := by rfl) (ht1 : ∀ env : PySem.Env, (assignEach [.Subscript o i1 q1, .Subscript o2 i2 q2] env).findIdx? (·.1) = none := by intro _; rfl) (ht2 : ∀ env : PySem.Env, (assignEach [.Subscript o i1 q1, .Subscript o2 i2 q2] env).length = 2 := by intro _; rfl)
    (hw : ∀ env : PySem.Env, env.scope = c.sc → swappedStores [.Tuple [.Subscript o i1 q1, .Subscript o2 i2 q2] k1 q3] (.Tuple [a, b] x2 q4) env = pure none := by intro env he; unfold swappedStores Env.blockKind Env.kindOf; simp only [he]; rfl)
    (hs : ∀ env : PySem.Env, swapsWithSole [.Tuple [.Subscript o i1 q1, .Subscript o2 i2 q2] k1 q3] (.Tuple [a, b] x2 q4) pos.line env = pure false := by intro _; rfl)
    (hg1 : ∀ (env : PySem.Env) v, assign (.Subscript o i1 q1) env v = (do let ov ← holding [v] (eval o env); let iv ← holding [v, ov] (eval i1 env); standAt q1; holding [v, ov, iv] (setItem ov iv v); release [v, ov, iv] []) := by intro _ _; rfl)
    (hg2 : ∀ (env : PySem.Env) v, assign (.Subscript o2 i2 q2) env v = (do let ov ← holding [v] (eval o2 env); let iv ← holding [v, ov] (eval i2 env); standAt q2; holding [v, ov, iv] (setItem ov iv v); release [v, ov, iv] []) := by intro _ _; rfl)
    (hp1 : ∀ env : PySem.Env, (assignEach [.Subscript o i1 q1, .Subscript o2 i2 q2] env).map (·.2) = assign (.Subscript o i1 q1) env :: (assignEach [.Subscript o2 i2 q2] env).map (·.2) := by intro _; rfl)
    (hp2 : ∀ env : PySem.Env, (assignEach [.Subscript o2 i2 q2] env).map (·.2) = assign (.Subscript o2 i2 q2) env :: (assignEach [] env).map (·.2) := by intro _; rfl)
    (h1 : ∀ env : PySem.Env, (assignEach [.Tuple [.Subscript o i1 q1, .Subscript o2 i2 q2] k1 q3] env).map (·.2) = [assign (.Tuple [.Subscript o i1 q1, .Subscript o2 i2 q2] k1 q3) env] := by intro _; rfl) :
    PSsn c (.Assign [.Tuple [.Subscript o i1 q1, .Subscript o2 i2 q2] k1 q3] (.Tuple [a, b] x2 q4) pos :: sts) ρ M P := pss_cons' (.mk fun hE => by
  refine ⟨tAsg (tTup (starA c [a, b])) (gTup c.K 2 (gCons (gSub (starE c o) (starE c i1) rSetD) (gCons (gSub (starE c o2) (starE c i2) rSetD) gNil))), fun X hX => ps_asg (pe_tup (starA_ok hst X hX)) (by
    rw [← hX.K]
    exact pg_tup hX.calm (pgs_cons (pg_sub (starE_ok X hX) (starE_ok X hX) (set_dict (hu_of hX.room)) (hg1 _)) (pgs_cons (pg_sub (starE_ok X hX) (starE_ok X hX) (set_dict (hu_of hX.room)) (hg2 _)) pgs_nil (hp2 _)) (hp1 _)) (ht2 _) (ht1 _)) (hs _) (hw _ hX.sc) (h1 _), fun F σ H S L D f' => ?_⟩
  unfold tAsg tTup
  refine starA_ev hv hE F σ H S L _ fun F' H' vs ds N r S' gg rs => ?_
  obtain ⟨x, y, e, ho, hi, hm, hz, N1, N2, hput, ho2, hi2, hm2, hput2, q⟩ := r
  subst e
  refine ⟨by rw [rs.len]; exact (by decide : 2 ≤ sizeLine), fun pp hpp => ?_⟩
  obtain ⟨S2, gn⟩ := S'.new (o := .tup vs) hpp
  have rs2 := rs.mono gn.ff
  obtain ⟨v, w, rfl, r1, r2⟩ := reps2 rs2
  refine ⟨pp, [v, w], rfl, SqT.of upd_same, rfl, v, [w], rfl, ?_⟩
  have L2 := L.mono (gg.ff.trans gn.ff)
  refine starE_ev ho hE _ σ _ S2 L2 _ fun F3 H3 u1 d1 N3 ⟨e1, e2⟩ S3 g3 p3 => ?_
  subst e1 e2
  refine starE_ev hi hE _ σ _ S3 (L2.mono g3.ff) _ fun F4 H4 u2 d2 N4 ⟨e1, e2⟩ S4 g4 p4 => ?_
  subst e1 e2
  have e3 := rep_ref.mp p3
  subst e3
  obtain ⟨_, uu, hu, ws, rfl, r⟩ := hm.get S4.ok
  have rx := (r1.mono g3.ff).mono g4.ff
  obtain ⟨S5, g5⟩ := S4.put hput (u := .dK (putK ws j1.k v)) ⟨_, rfl, r.put rx⟩
  refine ⟨p, _, rfl, .inl ⟨ws, j1.k, hu, rep_kD p4, by rw [r.len]; omega, rfl⟩, w, [], rfl, ?_⟩
  have L5 := L2.mono (g3.ff.trans (g4.ff.trans g5.ff))
  refine starE_ev ho2 hE _ σ _ S5 L5 _ fun F6 H6 u3 d3 N6 ⟨e1, e2⟩ S6 g6 p6 => ?_
  subst e1 e2
  refine starE_ev hi2 hE _ σ _ S6 (L5.mono g6.ff) _ fun F7 H7 u4 d4 N7 ⟨e1, e2⟩ S7 g7 p7 => ?_
  subst e1 e2
  have e3 := rep_ref.mp p6
  subst e3
  obtain ⟨_, uu2, hu2, ws2, rfl, r'⟩ := hm2.get S7.ok
  have ry := ((((r2.mono g3.ff).mono g4.ff).mono g5.ff).mono g6.ff).mono g7.ff
  obtain ⟨S8, g8⟩ := S7.put hput2 (u := .dK (putK ws2 j2.k w)) ⟨_, rfl, r'.put ry⟩
  refine ⟨p, _, rfl, .inl ⟨ws2, j2.k, hu2, rep_kD p7, by rw [r'.len]; have := put_len kvs j1 x; omega, rfl⟩, rfl, ?_⟩
  exact f'.nx _ _ ρ σ N2 q hE S8 (L5.mono (g6.ff.trans (g7.ff.trans g8.ff))) (gg.trans (gn.trans (g3.trans (g4.trans (g5.trans (g6.trans (g7.trans g8))))))))
/-- s.index(t), which is there -/
theorem pv_indexS {k : Nat} (ho : PV c o ρ M (.str s) M1) (ha : PV c e ρ M1 (.str r) M2) (hq : Txt.index0 (T s) (T r) = some k)
    (hbase : ∀ env : PySem.Env, attributeBase o "index" env (eval o env) = eval o env := by intro _; rfl)
    (hfew : ∀ env : PySem.Env, ((backTo cpos (starEach [e] env)).all (fun x => !x.1) && (backToKw cpos (keywordEach [] env)).all (fun x => x.1.isSome) && decide (([e] : List Expr).length + ([] : List Keyword).length + (if ([] : List Keyword).isEmpty then 0 else 1) < 30)) = true := by intro _; rfl)
    (hline : (apos.endLine == cpos.line) = true := by rfl) (hs : Pl1 e := by intro _; rfl) (hpl : ∀ env : PySem.Env, (backTo cpos (starEach [] env)).any (·.1) = false := by intro _; rfl) : PV c (.Call (.Attribute o "index" apos) [e] [] cpos) ρ M (.int (k : Nat)) M2 := .mk fun hE => by
  obtain ⟨to, o1, o2⟩ := ho.out hE
  obtain ⟨te, a1, a2⟩ := ha.out hE
  refine ⟨tBMS c.K "str" (rIndexX noW) to (tCons te tNil), fun X hX => by rw [← hX.K]; exact pe_bmS PySem.F.plainAttrs_str PySem.F.slot_str_index PySem.F.type_str_index (mt_indexX hX.calm takes_no) (o1 X hX) (pa_cons (a1 X hX) pa_nil (hs _)) (hbase _) (hfew _) hline (hs _) (hpl _),
    fun F σ H S L Q q => o2 F σ H S L _ fun F1 H1 v x M1' ⟨e1, e2⟩ S1 g1 p1 => ?_⟩
  subst e1 e2
  have ep := rep_str.mp p1
  subst ep
  refine ⟨?_, a2 F1 σ H1 S1 (L.mono g1.ff) _ fun F2 H2 w y M2' ⟨e1, e2⟩ S2 g2 p2 => ?_⟩
  · first | rfl | exact True.intro | exact ⟨_, rfl⟩
  subst e1 e2
  have ep := rep_str.mp p2
  subst ep
  exact ⟨T s, T r, rfl, rfl, fun k' h' => by rw [hq] at h'; cases h'; exact q _ _ _ _ _ ⟨rfl, rfl⟩ S2 (g1.trans g2) (rep_int.mpr rfl), fun h' => by rw [hq] at h'; cases h'⟩
/-! short forms -/
theorem lc_nm {f : Option D → Env} (hi : PInM c (.Name nm p2) iter ρ M xs M1 fun _ => True) (hx : xs = l.map inj) (hn : c.N[i]? = some nm) (hw : Wipe ρ [(nm, i)] ρw) (hp : Put ρw nm f) (hd : c.N.Nodup) (hz : l.length ≤ sizeLine)
    (hs : ∀ a ∈ l, PIf (c.blk scope) ifs (f (some (inj a))) M1 (t a) ∧ (t a = true → PV (c.blk scope) elt (f (some (inj a))) M1 (g a) M1))
    (hb : blkC c.N c.sc scope [(nm, i)] = true := by first | decide +kernel | (dsimp only; decide +kernel)) (hl : LocC (c.blk scope) nm := by first | exact Or.inl rfl | exact Or.inr ⟨rfl, rfl⟩) : LcD c (.Name nm p2) iter elt ifs scope [(nm, i)] ρ M l t g M1 :=
  .mk ⟨inj, [i], _, ρw, by rw [← hx]; exact PIn.at_ hi, hb, pgn_name hn hd hl, fun k hk => by simpa using hk, hw, hz, fun a ha => ⟨_, ⟨f, hp, rfl⟩, hs a ha⟩⟩
theorem lc_nmM {Φ : Mem → Prop} {f : Option D → Env} (hi : PInM c (.Name nm p2) iter ρ M xs M1 Φ) (hΦ : Φ M1) (hx : xs = l.map inj) (hn : c.N[i]? = some nm) (hw : Wipe ρ [(nm, i)] ρw) (hp : Put ρw nm f) (hd : c.N.Nodup) (hz : l.length ≤ sizeLine)
    (hs : ∀ a ∈ l, PIf (c.blk scope) ifs (f (some (inj a))) M1 (t a) ∧ (t a = true → PV (c.blk scope) elt (f (some (inj a))) M1 (g a) M1))
    (hb : blkC c.N c.sc scope [(nm, i)] = true := by first | decide +kernel | (dsimp only; decide +kernel)) (hl : LocC (c.blk scope) nm := by first | exact Or.inl rfl | exact Or.inr ⟨rfl, rfl⟩) : LcD c (.Name nm p2) iter elt ifs scope [(nm, i)] ρ M l t g M1 :=
  .mk ⟨inj, [i], _, ρw, by
    rw [← hx]
    exact .mk fun hE => by
      obtain ⟨wi, a, b⟩ := hi.out hE
      exact ⟨wi, a, fun F σ H S L R q => b F σ H S L R fun F' H' J S' g W => q F' H' J S' g fun F2 H2 M2 hs S2 e => W F2 H2 M2 hs S2 (by rw [e]; exact hΦ)⟩, hb, pgn_name hn hd hl, fun k hk => by simpa using hk, hw, hz, fun a ha => ⟨_, ⟨f, hp, rfl⟩, hs a ha⟩⟩
end
/-! defs that give something new -/
abbrev NRel := List D → Mem → (D → Mem → Prop) → Prop
def spN (K : PySem.W.Frag) (rel : NRel) : Sp := fun vs H Q _ => ∃ F ds M R, rel ds M R ∧ Sit K F M H ∧ Reps K F ds vs ∧ ∀ F' H' v d M', R d M' → Sit K F' M' H' → Go M F H M' F' H' → Rep K F' d v → Q v H'
structure FnN (P : Program) (w : World) (K : PySem.W.Frag) (mg : Str → Option Value) (base : Heap) (x : Str) (k : Nat) (rel : NRel) : Prop where
  ex : ∃ (f : Addr) (fd : FuncData) (ps : List Str), mg x = some (.ref f) ∧ PySem.W.keepIn K (.ref f) = true ∧ Binds K fd ps [] ∧ FnOk P w K mg base CX0 k f fd ps (spN K rel)
section
variable {P : Program} {w : World} {K : PySem.W.Frag} {mg : Str → Option Value} {base : Heap} {f : Addr} {nm qual : Str} {params : Arguments} {body : List Stmt} {scope : Scope} {N ps : List Str} {k : Nat} {rel : NRel}
theorem fnn_mk {kv : List (Str × V)} (hF : ∃ fd, FunD K nm qual params body scope [] kv f fd) (hm : mg nm = some (.ref f)) (S : FnScope N ps scope) (hps : ps.length ≤ N.length)
    (hb : ∀ (kV doc pm : Value) (an : Option Addr) (cdv ct : Value) (us : List Value), us.length = ps.length → bindArgs (PySem.W.fnOf nm qual params body scope .none kV doc pm an cdv ct) ⟨us, []⟩ = pure (ps.zip us))
    (len : ∀ ds M R, rel ds M R → ds.length = ps.length) (h : ∀ ds M R, rel ds M R → PSsn ⟨P, w, K, mg, base, N, scope, k, (fun _ => true), noW⟩ body (start0 N ds) M { nx := fun _ N => R .non N, rt := R }) : FnN P w K mg base nm (k + 1) rel := by
  obtain ⟨fd, F⟩ := hF
  refine ⟨⟨f, fd, ps, hm, F.kp, F.bindsN hb, ?_⟩⟩
  refine F.ok S (fun vs H Q E ⟨F, ds, M, R, hr, _, r, _⟩ => by rw [r.len]; exact len _ _ _ hr) fun cdv A outer s H vs Q E hr hsp => ?_
  obtain ⟨F0, ds, M, R, rl, S0, r, q⟩ := hsp
  obtain ⟨t, a, b⟩ := (h ds M R rl).out ⟨start0_names N ds, S.nd⟩
  refine ⟨t, PSs.nox (a _ ⟨rfl, rfl, rfl, rfl, rfl, rfl, S.nd, rfl, rfl, hr, fun _ _ => rfl, takes_no, PassesOwn.never⟩), ?_⟩
  refine b F0 _ H S0 (slots_start N ds vs r (by rw [len _ _ _ rl]; exact hps)) _ ⟨fun F' H' ρ' σ' M2 n _ S' _ g => q F' H' _ _ M2 n S' g (rep_non.mpr rfl), fun F' H' v d' M2 n S' g r' => q F' H' v d' M2 n S' g r', fun _ _ _ _ _ z => z.elim, fun _ _ _ _ _ z => z.elim⟩
end
section
variable {c : Cfg} {ρ : Env} {M M1 : Mem} {pos p2 : Pos} {e : Expr} {es : List Expr} {ds : List D} {nm : Str} {rel : NRel} {R : D → Mem → Prop} {k : Nat}
theorem pn_call (G : FnN c.P c.w c.K c.mg c.base nm k rel) (ha : PAs c (e :: es) ρ M ds M1) (h : rel ds [] R) (hk : k ≤ c.k := by dsimp only; decide) (hg : GlC c nm := by rfl) (hdb : (nm == ("__debug__" : Str)) = false := by decide)
    (he : ∀ env : PySem.Env, starEach (e :: es) env = (false, eval e env) :: starEach es env := by intro _; rfl) (hpl : ∀ env : PySem.Env, (backTo pos (starEach es env)).any (·.1) = false := by intro _; rfl) : PN c (.Call (.Name nm p2) (e :: es) [] pos) ρ M (fun d N => ∃ M0, R d M0 ∧ N = M0 ++ M1) := .mk fun hE => by
  obtain ⟨ta, a1, a2⟩ := ha.out hE
  obtain ⟨f, fd, ps, hm, hkp, hb, hF⟩ := G.ex
  refine ⟨tCall (spN c.K rel) [] E0 ta, fun X hX => pe_call (by rw [hX.P, hX.w, hX.K, hX.mg, hX.base]; exact hF) (hX.room.mono hk) (hg.gl hX) (by rw [hX.mg]; exact hm) (by rw [hX.K]; exact hkp) (by rw [hX.K]; exact hb) .nil pass0 (a1 X hX) hdb (he _) (hpl _), fun F σ H S L Q q => a2 F σ H S L _ fun F1 H1 vs ds' M1' ⟨e1, e2⟩ S1 g1 p1 => ?_⟩
  subst e1 e2
  rw [List.append_nil]
  refine ⟨F1, ds', [], R, h, ⟨S1.fh, trivial⟩, p1, fun F' H' v d M0 hR S' g r' => ?_⟩
  obtain ⟨S2, g2⟩ := frame (Mc := []) (Mr := M1') S1 S' g
  exact q F' H' v d _ ⟨M0, hR, rfl⟩ S2 (g1.trans g2) r'
end
end Dl

set_option Elab.async false
set_option linter.all false
set_option maxRecDepth 100000
set_option maxHeartbeats 2000000
/-! Dl: AA: what is asked of the top, beyond HeadHook2; the hook over a range of addresses. -/
namespace Dl
open PySem PySem.Spec PyProof.Rows L2
/-- more facts by names: a class whose objects isinstance may see; a class that isinstance may be asked for; != by ==; no base of; no subclass of -/
inductive Fx where
  | isi (x : Str) | cls (x : Str) | ne (x : Str) | nob (x : Str) (T : String) | nos (x y : Str) | bin (x : Str) (nm T : String) | fst (x : Str)
/-- an own operator nm, with the built-in T on the right; with one of the same class -/
class BinT (K : PySem.W.Frag) (C : Addr) (nm T : String) : Prop where
  fst : PySem.W.selfFirst K C = true
  rfl_ : PySem.W.findIn K (.ref C) (dunderR nm) = some none
  h1 : (PySem.W.findIn K (.type T) (PySem.dunder nm)).isSome = true
  h2 : (PySem.W.findIn K (.type T) (dunderR nm)).isSome = true
  sub : PySem.W.subIn K (.type T) (.ref C) = some false
class FstK (K : PySem.W.Frag) (C : Addr) : Prop where
  fst : PySem.W.selfFirst K C = true
def Fx.ok (K : PySem.W.Frag) : Fx → Bool
  | .isi x => (Cls.b K (He.ga K x)) && (He.eqO (PySem.W.findIn K (.ref (He.ga K x)) "__class__") (some (some (.builtin "object.__class__"))) && (He.eqO (PySem.W.specialIn K (.builtin "object.__class__") "__get__") (some (some (.builtin "getset_descriptor.__get__"))) &&
      (decide (PySem.W.takesIn K (.builtin "object.__class__") = some true) && decide (PySem.W.mroIn K (He.ga K x) (.type "object") = some true))))
  | .cls x => (PySem.W.clsIn K (He.ga K x)).isSome && PySem.W.typeIn K (.ref (He.ga K x)) == some (.type "type")
  | .ne x => He.eqO (PySem.W.findIn K (.ref (He.ga K x)) "__ne__") (some (some (.builtin "object.__ne__"))) && decide (PySem.W.mroIn K (He.ga K x) (.type "object") = some true)
  | .nob x T => decide (PySem.W.mroIn K (He.ga K x) (.type T) = some false)
  | .nos x y => decide (PySem.W.mroIn K (He.ga K x) (.ref (He.ga K y)) = some false) && decide (He.ga K x ≠ He.ga K y)
  | .bin x nm T => PySem.W.selfFirst K (He.ga K x) && (He.eqO (PySem.W.findIn K (.ref (He.ga K x)) (dunderR nm)) (some none) && ((PySem.W.findIn K (.type T) (PySem.dunder nm)).isSome && ((PySem.W.findIn K (.type T) (dunderR nm)).isSome && decide (PySem.W.subIn K (.type T) (.ref (He.ga K x)) = some false))))
  | .fst x => PySem.W.selfFirst K (He.ga K x)
where
  Cls.b (K : PySem.W.Frag) (C : Addr) : Bool := PySem.W.plainGet K C Str.empty && (PySem.W.hasDictIn K C && (PySem.W.plainOver K C && He.eqO (PySem.W.findIn K (.ref C) "__setattr__") (some (some (.builtin "object.__setattr__")))))
section
variable {K : PySem.W.Frag} {x y : Str} {T : String}
theorem fx_isi (h : (Fx.isi x).ok K = true) : IsiK K (He.ga K x) := by
  unfold Fx.ok at h
  obtain ⟨h0, h⟩ := He.ba h
  obtain ⟨h1, h⟩ := He.ba h
  obtain ⟨h2, h⟩ := He.ba h
  obtain ⟨h3, h4⟩ := He.ba h
  unfold Fx.ok.Cls.b at h0
  obtain ⟨a, h0⟩ := He.ba h0
  obtain ⟨b, h0⟩ := He.ba h0
  obtain ⟨c, d⟩ := He.ba h0
  exact ⟨⟨a, b, c, He.eqO_ok d⟩, He.eqO_ok h1, He.eqO_ok h2, of_decide_eq_true h3, of_decide_eq_true h4⟩
theorem fx_bin {nm : String} (h : (Fx.bin x nm T).ok K = true) : BinT K (He.ga K x) nm T := by
  unfold Fx.ok at h
  obtain ⟨h0, h⟩ := He.ba h
  obtain ⟨h1, h⟩ := He.ba h
  obtain ⟨h2, h⟩ := He.ba h
  obtain ⟨h3, h4⟩ := He.ba h
  exact ⟨h0, He.eqO_ok h1, h2, h3, of_decide_eq_true h4⟩
theorem fx_fst (h : (Fx.fst x).ok K = true) : FstK K (He.ga K x) := ⟨h⟩
theorem fx_cls (h : (Fx.cls x).ok K = true) : ClsK K (He.ga K x) := ⟨h⟩
theorem fx_ne (h : (Fx.ne x).ok K = true) : NeK K (He.ga K x) := by
  unfold Fx.ok at h
  obtain ⟨h0, h⟩ := He.ba h
  exact ⟨He.eqO_ok h0, of_decide_eq_true h⟩
theorem fx_nob (h : (Fx.nob x T).ok K = true) : NoBase K (He.ga K x) T := ⟨of_decide_eq_true h⟩
theorem fx_nos (h : (Fx.nos x y).ok K = true) : NoSub K (He.ga K x) (He.ga K y) := by
  unfold Fx.ok at h
  obtain ⟨h0, h⟩ := He.ba h
  exact ⟨of_decide_eq_true h0, of_decide_eq_true h⟩
end
/-! the hook: what stands from lo on, len objects -/
def asR (lo len : Nat) : List Addr := mainGlobals :: List.range' lo len
def obsR (fa : List He.Fa) (fn : List He.DefD) (fx : List Fx) (K : PySem.W.Frag) : Bool × He.AlD := (fx.all fun f => f.ok K, He.obsD fa fn K)
def obsRG (lo len : Nat) (fa : List He.Fa) (fn : List He.DefD) (fx : List Fx) (g : Addr → Option Obj) : Bool × He.AlD := obsR fa fn fx (He.frG g (asR lo len))
def SaysR (fa : List He.Fa) (fn : List He.DefD) (fx : List Fx) (K : PySem.W.Frag) : Prop := obsR fa fn fx K = (true, He.valD fn)
def hookR (lo len : Nat) (fa : List He.Fa) (fn : List He.DefD) (fx : List Fx) : PySem.W.Hook where
  α := Bool × He.AlD
  obs := fun s => obsRG lo len fa fn fx s.heap.get?
  val := fun _ => (true, He.valD fn)
  says := fun _ h => ∃ K : PySem.W.Frag, K.In h ∧ SaysR fa fn fx K
  of := fun _ _ e => ⟨_, He.frG_in, e⟩
  keeps := fun _ _ _ ⟨K, hK, c⟩ k => ⟨K, PySem.W.Frag.In.keeps hK k, c⟩
theorem obsRG_eq {lo len : Nat} {fa : List He.Fa} {fn : List He.DefD} {fx : List Fx} {g : Addr → Option Obj} {s : Shared} (h : ∀ a, g a = s.heap.get? a) : obsRG lo len fa fn fx g = (hookR lo len fa fn fx).obs s := by
  have e : g = s.heap.get? := funext h
  rw [e] <;> rfl
/-! in, not in: what the right side is decides -/
structure InX (c : Cfg) (a b : Expr) (ρ : Env) (M : Mem) (x : D) (M1 : Mem) (y : D) (M2 : Mem) (k : Bool) (pos : Pos) : Prop where
  mk ::
  out : PV c a ρ M x M1 → PV c b ρ M1 y M2 → PB c (.Compare a [.In] [b] pos) ρ M k M2 ∧ PV c (.Compare a [.In] [b] pos) ρ M (.bl k) M2
structure NInX (c : Cfg) (a b : Expr) (ρ : Env) (M : Mem) (x : D) (M1 : Mem) (y : D) (M2 : Mem) (k : Bool) (pos : Pos) : Prop where
  mk ::
  out : PV c a ρ M x M1 → PV c b ρ M1 y M2 → PB c (.Compare a [.NotIn] [b] pos) ρ M k M2 ∧ PV c (.Compare a [.NotIn] [b] pos) ρ M (.bl k) M2
section
variable {c : Cfg} {a b : Expr} {ρ : Env} {M M1 M2 : Mem} {x y : D} {k : Bool} {pos : Pos} {kvs : List (DK × D)} {j : DK}
theorem pb_in (ha : PV c a ρ M x M1) (hb : PV c b ρ M1 y M2) (h : InX c a b ρ M x M1 y M2 k pos) : PB c (.Compare a [.In] [b] pos) ρ M k M2 := (h.out ha hb).1
theorem pv_in (ha : PV c a ρ M x M1) (hb : PV c b ρ M1 y M2) (h : InX c a b ρ M x M1 y M2 k pos) : PV c (.Compare a [.In] [b] pos) ρ M (.bl k) M2 := (h.out ha hb).2
theorem pb_nin (ha : PV c a ρ M x M1) (hb : PV c b ρ M1 y M2) (h : NInX c a b ρ M x M1 y M2 k pos) : PB c (.Compare a [.NotIn] [b] pos) ρ M k M2 := (h.out ha hb).1
theorem pv_nin (ha : PV c a ρ M x M1) (hb : PV c b ρ M1 y M2) (h : NInX c a b ρ M x M1 y M2 k pos) : PV c (.Compare a [.NotIn] [b] pos) ρ M (.bl k) M2 := (h.out ha hb).2
theorem in_op (h : CmpD c .In x y M2 (.bl k) M2) (hm : behindInMarks .In b = false := by first | rfl | exact nomark _) : InX c a b ρ M x M1 y M2 k pos := .mk fun ha hb => ⟨pb_cmp ha hb h hm, pv_cmp ha hb h hm⟩
theorem in_d (hy : x = kD j) (h : DctAt c.K y M2 kvs) (hm : behindInMarks .In b = false := by first | rfl | exact nomark _) : InX c a b ρ M x M1 y M2 (look kvs j).isSome pos := .mk fun ha hb => by
  subst hy
  exact ⟨pb_din ha hb h hm, pv_din ha hb h hm⟩
theorem nin_op (h : CmpD c .NotIn x y M2 (.bl k) M2) (hm : behindInMarks .NotIn b = false := by first | rfl | exact nomark _) : NInX c a b ρ M x M1 y M2 k pos := .mk fun ha hb => ⟨pb_cmp ha hb h hm, pv_cmp ha hb h hm⟩
theorem nin_d (hy : x = kD j) (h : DctAt c.K y M2 kvs) (hm : behindInMarks .NotIn b = false := by first | rfl | exact nomark _) : NInX c a b ρ M x M1 y M2 (!(look kvs j).isSome) pos := .mk fun ha hb => by
  subst hy
  exact ⟨pb_dnin ha hb h hm, pv_dnin ha hb h hm⟩
end
/-- two names as a target -/
theorem pgn_nm2 {c : Cfg} {n1 n2 : Str} {i j k : Nat} {q1 q2 pos : Pos} (h1 : c.N[i]? = some n1) (h2 : c.N[j]? = some n2) (hd : c.N.Nodup) (hl1 : LocC c n1 := by first | exact Or.inl rfl | exact Or.inr ⟨rfl, rfl⟩) (hl2 : LocC c n2 := by first | exact Or.inl rfl | exact Or.inr ⟨rfl, rfl⟩) :
    PGn c (.Tuple [.Name n1 q1, .Name n2 q2] k pos) [i, j] (fun d ρ ρ' => ∃ x y f g, d = .tup [x, y] ∧ Put ρ n1 f ∧ Put (f (some x)) n2 g ∧ ρ' = g (some y)) := by
  obtain ⟨g, a, b⟩ := pgn_tup (k := k) (pos := pos) (pgsn_cons (pgn_name (pos := q1) h1 hd hl1) (pgsn_cons (pgn_name (pos := q2) h2 hd hl2) pgsn_nil))
  refine ⟨g, a, fun d ρ ρ' ⟨x, y, f, f', e, p1, p2, e2⟩ hE => ?_⟩
  exact b d ρ ρ' ⟨[x, y], e, rfl, x, [y], _, rfl, ⟨f, p1, rfl⟩, y, [], _, rfl, ⟨f', p2, e2⟩, rfl, rfl⟩ hE
end Dl

set_option Elab.async false
set_option linter.all false
set_option maxRecDepth 100000
set_option maxHeartbeats 2000000
/-! Dl: AB: texts by their signs: find, index, join of nothing; dicts by plain keys; sizes. -/
namespace Dl
open PySem PySem.Spec L2
theorem sz_line {n : Nat} (h : n ≤ 100000) : n ≤ sizeLine := Nat.le_trans h (by decide)
theorem sz_lt {n : Nat} (h : n < 100000) : n < sizeLine := Nat.lt_of_lt_of_le h (by decide)
theorem at_one {s : List Nat} {k i : Nat} : PySem.StrLaws.At (T s) (T [k]) (T s).length i ↔ s[i]? = some k := by
  unfold PySem.StrLaws.At
  have hl : (T [k]).length = 1 := rfl
  rw [T_len s, hl]
  unfold Builtin.Str.subAt
  rw [hl]
  constructor
  · rintro ⟨h1, h2⟩
    have e := eq_of_beq h2
    have e2 : (s.toArray.extract i (i + 1)).toList = [k] := congrArg Array.toList e
    simp only [Array.toList_extract, List.extract_eq_take_drop] at e2
    have : (s.drop i)[0]? = some k := by
      have e3 := congrArg (fun l : List Nat => l[0]?) e2
      simpa using e3
    simpa using this
  · intro h
    have hi := (List.getElem?_eq_some_iff.mp h).1
    refine ⟨hi, beq_iff_eq.mpr ?_⟩
    have e : (s.toArray.extract i (i + 1)).toList = [k] := by
      simp only [Array.toList_extract, List.extract_eq_take_drop]
      rw [show i + 1 - i = 1 by omega, List.drop_eq_getElem_cons hi]
      obtain ⟨_, e⟩ := List.getElem?_eq_some_iff.mp h
      simp [e]
    exact Array.ext' e
theorem idx_least {k : Nat} : ∀ {s : List Nat} {i : Nat}, s[i]? = some k → (∀ m, m < i → s[m]? ≠ some k) → s.idxOf k = i
  | [], _, h, _ => by simp at h
  | a :: s, 0, h, _ => by
    have : a = k := by simpa using h
    subst this; simp
  | a :: s, i + 1, h, hn => by
    have ha : a ≠ k := fun e => hn 0 (by omega) (by simp [e])
    rw [List.idxOf_cons, show (a == k) = false by simpa using ha, cond_false, idx_least (s := s) (i := i) (by simpa using h) fun m hm => by simpa using hn (m + 1) (by omega)]
theorem occ_one {s : List Nat} {k : Nat} (h : k ∈ s) : ∃ r, Builtin.Str.occurrences (T s) (T [k]) 0 (T s).length 1 = s.idxOf k :: r := by
  rcases PySem.StrLaws.occ_head (T s) (T [k]) 1 (Nat.le_refl _) with ⟨_, h2⟩ | ⟨i, r, e, h1, h2⟩
  · exfalso
    obtain ⟨i, hi⟩ := List.getElem?_of_mem h
    exact h2 i (at_one.mpr hi)
  · refine ⟨r, ?_⟩
    rw [e, idx_least (at_one.mp h1) fun m hm q => h2 m hm (at_one.mpr q)]
theorem find_one {s : List Nat} {k : Nat} (h : k ∈ s) : Txt.find (T s) (T [k]) = (s.idxOf k : Nat) := by
  obtain ⟨r, e⟩ := occ_one h
  unfold Txt.find
  rw [e]
theorem index_one {s : List Nat} {k : Nat} (h : k ∈ s) : Txt.index0 (T s) (T [k]) = some (s.idxOf k) := by
  obtain ⟨r, e⟩ := occ_one h
  unfold Txt.index0
  rw [e]; rfl
theorem joinL_nil : ∀ ls : List (List Nat), TL.joinL [] ls = ls.flatten
  | [] => rfl
  | [p] => by simp [TL.joinL]
  | p :: q :: r => by
    show p ++ ([] ++ TL.joinL [] (q :: r)) = _
    rw [joinL_nil (q :: r)]; rfl
theorem join_nil {ls : List (List Nat)} : Txt.join (T []) (ls.map T) = T ls.flatten := by
  show Builtin.Str.glued _ _ = _
  rw [PySem.StrLaws.glued_eq_join]
  have e := TL.tl_join (T []) (ls.map T)
  have e2 : (T ls.flatten) = T (Str.join (T []) (ls.map T)).cps.toList := by
    refine congrArg T ?_
    show _ = TL.tl _
    rw [e, List.map_map]
    have : ls.map (TL.tl ∘ T) = ls := List.map_id' ls
    rw [this]
    exact (joinL_nil ls).symm
  rw [e2, T_list]
theorem flat_single {α : Type} (l : List α) : (l.map fun k => [k]).flatten = l := by
  induction l with
  | nil => rfl
  | cons a l ih => simp [ih]
/-! dicts by keys of one kind -/
section
variable {κ α β : Type} [DecidableEq κ]
theorem look_mapG {inj : κ → DK} (hi : ∀ a b, inj a = inj b → a = b) {f : α → D} (k : κ) : ∀ (l : List (κ × α)), look (l.map fun kv => (inj kv.1, f kv.2)) (inj k) = (look l k).map f
  | [] => rfl
  | (a, x) :: l => by
    show (if inj a = inj k then some (f x) else look _ _) = (if a = k then some x else look l k).map f
    by_cases e : a = k
    · subst e; rw [if_pos rfl, if_pos rfl]; rfl
    · rw [if_neg fun q => e (hi _ _ q), if_neg e]; exact look_mapG hi k l
theorem put_mapG {inj : κ → DK} (hi : ∀ a b, inj a = inj b → a = b) {f : α → D} (k : κ) (x : α) (l : List (κ × α)) : put (l.map fun kv => (inj kv.1, f kv.2)) (inj k) (f x) = (put l k x).map fun kv => (inj kv.1, f kv.2) := by
  unfold put
  rw [look_mapG hi]
  cases e : look l k with
  | none => simp
  | some y =>
    simp only [Option.map_some, Option.isSome_some, if_true, List.map_map]
    refine List.map_congr_left fun a _ => ?_
    simp only [Function.comp]
    by_cases h : a.1 = k
    · rw [if_pos (congrArg inj h), if_pos h]
    · rw [if_neg fun q => h (hi _ _ q), if_neg h]
theorem look_put (l : List (κ × α)) (k j : κ) (x : α) : look (put l k x) j = if k = j then some x else look l j := by
  have h1 : ∀ l : List (κ × α), (look l k).isSome = true → look (l.map fun kv => if kv.1 = k then (kv.1, x) else kv) j = if k = j then some x else look l j := by
    intro l
    induction l with
    | nil => intro h; cases h
    | cons a l ih =>
      obtain ⟨a, y⟩ := a
      intro h
      rw [List.map_cons]
      by_cases e : a = k
      · subst e
        rw [if_pos rfl]
        by_cases e2 : a = j
        · subst e2
          show (if a = a then some x else _) = _
          rw [if_pos rfl, if_pos rfl]
        · show (if a = j then some x else look _ j) = if a = j then some x else (if a = j then some y else look l j)
          rw [if_neg e2, if_neg e2, if_neg e2]
          by_cases q : (look l a).isSome = true
          · have := ih q; rw [if_neg e2] at this; exact this
          · have hn : ∀ b ∈ l, b.1 ≠ a := by
              intro b hb hba
              apply q
              clear h ih q
              induction l with
              | nil => cases hb
              | cons d l ih2 =>
                obtain ⟨d, z⟩ := d
                show (if d = a then some z else look l a).isSome = true
                by_cases hd : d = a
                · rw [if_pos hd]; rfl
                · rw [if_neg hd]
                  rcases List.mem_cons.mp hb with hb | hb
                  · subst hb; exact absurd hba hd
                  · exact ih2 hb
            have : l.map (fun kv => if kv.1 = a then (kv.1, x) else kv) = l.map id := List.map_congr_left fun b hb => if_neg (hn b hb)
            rw [this, List.map_id]
      · rw [if_neg e]
        have h' : (look l k).isSome = true := by
          have : (if a = k then some y else look l k).isSome = true := h
          rwa [if_neg e] at this
        show (if a = j then some y else look _ j) = if k = j then some x else (if a = j then some y else look l j)
        rw [ih h']
        by_cases e2 : a = j
        · rw [if_pos e2, if_neg (fun q => e (e2.trans q.symm)), if_pos e2]
        · rw [if_neg e2, if_neg e2]
  have h2 : ∀ l : List (κ × α), look l k = none → look (l ++ [(k, x)]) j = if k = j then some x else look l j := by
    intro l
    induction l with
    | nil => intro _; rfl
    | cons a l ih =>
      obtain ⟨a, y⟩ := a
      intro h
      have e : ¬ a = k := fun e => by
        have : (if a = k then some y else look l k) = none := h
        rw [if_pos e] at this; cases this
      have h' : look l k = none := by
        have : (if a = k then some y else look l k) = none := h
        rwa [if_neg e] at this
      show (if a = j then some y else look (l ++ [(k, x)]) j) = if k = j then some x else (if a = j then some y else look l j)
      rw [ih h']
      by_cases e2 : a = j
      · rw [if_pos e2, if_neg (fun q => e (e2.trans q.symm)), if_pos e2]
      · rw [if_neg e2, if_neg e2]
  unfold put
  by_cases h : (look l k).isSome = true
  · rw [if_pos h]; exact h1 l h
  · rw [if_neg h]
    exact h2 l (by simpa using h)
theorem look_mem {l : List (κ × α)} {k : κ} : (look l k).isSome = true ↔ k ∈ l.map (·.1) := by
  induction l with
  | nil => simp [look]
  | cons a l ih =>
    obtain ⟨a, y⟩ := a
    show (if a = k then some y else look l k).isSome = true ↔ _
    by_cases e : a = k
    · subst e; simp
    · rw [if_neg e, ih]
      simp [Ne.symm e]
theorem put_keys (l : List (κ × α)) (k : κ) (x : α) : (put l k x).map (·.1) = if k ∈ l.map (·.1) then l.map (·.1) else l.map (·.1) ++ [k] := by
  unfold put
  by_cases h : (look l k).isSome = true
  · rw [if_pos h, if_pos (look_mem.mp h), List.map_map]
    refine List.map_congr_left fun a _ => ?_
    simp only [Function.comp]; split <;> rfl
  · rw [if_neg h, if_neg fun q => h (look_mem.mpr q)]
    simp
end
theorem inl_inj (a b : Nat) (h : (Sum.inl (a : Int) : DK) = Sum.inl (b : Int)) : a = b := by
  have := Sum.inl.inj h
  omega
theorem inr_inj (a b : List Nat) (h : (Sum.inr a : DK) = Sum.inr b) : a = b := by simpa using h
end Dl

set_option Elab.async false
set_option linter.all false
set_option maxRecDepth 100000
set_option maxHeartbeats 2000000
/-! Dl: AC: defs as functions of data: relations of one form, their calls; what is gone through. -/
namespace Dl
open PySem PySem.Spec L2
/-- from data to data -/
def RelF {α : Type} (inp : α → List D) (pre : α → Prop) (out : α → D) : DRel := fun ds M d M' => ∃ a, ds = inp a ∧ pre a ∧ M = [] ∧ d = out a ∧ M' = []
/-- with one object that changes -/
def RelO {α : Type} (inp : α → Addr → List D) (ob : α → MO) (pre : α → Prop) (out : α → D) (ob' : α → MO) : DRel := fun ds M d M' => ∃ a p, ds = inp a p ∧ pre a ∧ M = [(p, ob a)] ∧ d = out a ∧ M' = [(p, ob' a)]
/-- an __init__ -/
def RelI {α : Type} (C : Addr) (inp : α → List D) (pre : α → Prop) (fs : α → List (Str × D)) : DRel := fun ds M d M' => ∃ a p, ds = .ref p :: inp a ∧ pre a ∧ M = [(p, .ins C [])] ∧ d = .non ∧ M' = [(p, .ins C (fs a))]
section
variable {α : Type} {inp : α → List D} {pre : α → Prop} {out : α → D} {inpO : α → Addr → List D} {ob ob' : α → MO} {fs : α → List (Str × D)} {C : Addr} {n : Nat}
theorem relF_len (h : ∀ a, (inp a).length = n) : ∀ ds M d M', RelF inp pre out ds M d M' → ds.length = n := by rintro ds M d M' ⟨a, rfl, _⟩; exact h a
theorem relO_len (h : ∀ a p, (inpO a p).length = n) : ∀ ds M d M', RelO inpO ob pre out ob' ds M d M' → ds.length = n := by rintro ds M d M' ⟨a, p, rfl, _⟩; exact h a p
theorem relI_len (h : ∀ a, (inp a).length + 1 = n) : ∀ ds M d M', RelI C inp pre fs ds M d M' → ds.length = n := by rintro ds M d M' ⟨a, p, rfl, _⟩; exact h a
theorem relF_body {W : List D → Mem → D → Mem → Prop} (h : ∀ a, pre a → W (inp a) [] (out a) []) : ∀ ds M d M', RelF inp pre out ds M d M' → W ds M d M' := by rintro ds M d M' ⟨a, rfl, hp, rfl, rfl, rfl⟩; exact h a hp
theorem relO_body {W : List D → Mem → D → Mem → Prop} (h : ∀ a p, pre a → W (inpO a p) [(p, ob a)] (out a) [(p, ob' a)]) : ∀ ds M d M', RelO inpO ob pre out ob' ds M d M' → W ds M d M' := by rintro ds M d M' ⟨a, p, rfl, hp, rfl, rfl, rfl⟩; exact h a p hp
theorem relI_body {W : List D → Mem → D → Mem → Prop} (h : ∀ a p, pre a → W (.ref p :: inp a) [(p, .ins C [])] .non [(p, .ins C (fs a))]) : ∀ ds M d M', RelI C inp pre fs ds M d M' → W ds M d M' := by rintro ds M d M' ⟨a, p, rfl, hp, rfl, rfl, rfl⟩; exact h a p hp
end
section
variable {α : Type} {inp : α → List D} {pre : α → Prop} {out : α → D} {inpO : α → Addr → List D} {ob ob' : α → MO} {fs gs : α → List (Str × D)} {fo : List (Str × D)} {C : Addr}
variable {c : Cfg} {ρ : Env} {M M1 M2 M' Mr : Mem} {pos p2 apos : Pos} {e o : Expr} {es : List Expr} {ds : List D} {nm m : Str} {k : Nat} {p : Addr}
theorem pv_callF (G : FnS c.P c.w c.K c.mg c.base nm k [] (RelF inp pre out)) (a : α) (hp : pre a) (ha : PAs c (e :: es) ρ M ds M1) (hi : inp a = ds := by rfl) (hk : k ≤ c.k := by dsimp only; decide) (hg : GlC c nm := by rfl) (hdb : (nm == ("__debug__" : Str)) = false := by decide)
    (he : ∀ env : PySem.Env, starEach (e :: es) env = (false, eval e env) :: starEach es env := by intro _; rfl) (hpl : ∀ env : PySem.Env, (backTo pos (starEach es env)).any (·.1) = false := by intro _; rfl) : PV c (.Call (.Name nm p2) (e :: es) [] pos) ρ M (out a) M1 :=
  pv_call G (hi ▸ ha) (.none ⟨a, List.append_nil _, hp, rfl, rfl, rfl⟩) hk hg hdb he hpl
theorem pv_callO (G : FnS c.P c.w c.K c.mg c.base nm k [] (RelO inpO ob pre out ob')) (a : α) (hp : pre a) (ha : PAs c (e :: es) ρ M ds M1) (h1 : MCut M1 p (ob a) Mr) (h2 : MCut M2 p (ob' a) Mr) (hi : inpO a p = ds := by rfl) (hk : k ≤ c.k := by dsimp only; decide) (hg : GlC c nm := by rfl) (hdb : (nm == ("__debug__" : Str)) = false := by decide)
    (he : ∀ env : PySem.Env, starEach (e :: es) env = (false, eval e env) :: starEach es env := by intro _; rfl) (hpl : ∀ env : PySem.Env, (backTo pos (starEach es env)).any (·.1) = false := by intro _; rfl) : PV c (.Call (.Name nm p2) (e :: es) [] pos) ρ M (out a) M2 :=
  pv_call G (hi ▸ ha) (.one h1 ⟨a, p, List.append_nil _, hp, rfl, rfl, rfl⟩ h2) hk hg hdb he hpl
theorem pv_makeI (G : MkS c.P c.w c.K c.mg c.base nm C k [] (RelI C inp pre fs)) (a : α) (hp : pre a) (ha : PAs c (e :: es) ρ M ds M1) (hi : inp a = ds := by rfl) (hk : k + 1 ≤ c.k := by dsimp only; decide) (hg : GlC c nm := by rfl) (hdb : (nm == ("__debug__" : Str)) = false := by decide)
    (he : ∀ env : PySem.Env, starEach (e :: es) env = (false, eval e env) :: starEach es env := by intro _; rfl) (hpl : ∀ env : PySem.Env, (backTo pos (starEach es env)).any (·.1) = false := by intro _; rfl) : PV c (.Call (.Name nm p2) (e :: es) [] pos) ρ M (.obj C (fs a)) M1 :=
  pv_make (M0 := []) G (hi ▸ ha) (fun p => ⟨a, p, congrArg _ (List.append_nil _), hp, rfl, rfl, rfl⟩) hk hg hdb he hpl
theorem pv_methF (ho : PV c o ρ M (.obj C fo) M1) (G : MtS c.P c.w c.K c.mg c.base C m k [] (RelF inp pre out)) (a : α) (hp : pre a) (ha : PAs c (e :: es) ρ M1 ds M2) (hi : inp a = .obj C fo :: ds := by rfl) (hl : fo.lookup m = none := by wtm_at "lk_") (hk : k ≤ c.k := by dsimp only; decide)
    (hst : ∀ env : PySem.Env, starEach (e :: es) env = (false, eval e env) :: starEach es env := by intro _; rfl) (hpl : ∀ env : PySem.Env, (backTo pos (starEach es env)).any (·.1) = false := by intro _; rfl)
    {pl : PySem.Env → Sem Bool} (ht : ∀ env : PySem.Env, eval (.Call (.Attribute o m apos) (e :: es) [] pos) env = (do
      let ov ← eval o env
      standAt apos.atName
      let (f, first) ← holding [ov] (getMethod ov m (pl env))
      callWith pos f first (backTo pos (starEach (e :: es) env)) (backToKw pos (keywordEach [] env))) := by intro _; rfl) : PV c (.Call (.Attribute o m apos) (e :: es) [] pos) ρ M (out a) M2 :=
  pv_meth ho G hl ha (.none ⟨a, by rw [List.append_nil, hi], hp, rfl, rfl, rfl⟩) hk hst hpl ht
theorem pv_methF0 (ho : PV c o ρ M (.obj C fo) M1) (G : MtS c.P c.w c.K c.mg c.base C m k [] (RelF inp pre out)) (a : α) (hp : pre a) (hi : inp a = [.obj C fo] := by rfl) (hl : fo.lookup m = none := by wtm_at "lk_") (hk : k ≤ c.k := by dsimp only; decide)
    {pl : PySem.Env → Sem Bool} (ht : ∀ env : PySem.Env, eval (.Call (.Attribute o m apos) [] [] pos) env = (do
      let ov ← eval o env
      standAt apos.atName
      let (f, first) ← holding [ov] (getMethod ov m (pl env))
      callWith pos f first (backTo pos (starEach [] env)) (backToKw pos (keywordEach [] env))) := by intro _; rfl) : PV c (.Call (.Attribute o m apos) [] [] pos) ρ M (out a) M1 :=
  pv_meth0 ho G hl (.none ⟨a, hi.symm, hp, rfl, rfl, rfl⟩) hk ht
end
/-! what is gone through, by what it comes to -/
structure PinX (c : Cfg) (tg e : Expr) (ρ : Env) (M : Mem) (d : D) (M1 : Mem) (xs : List D) (Φ : Mem → Prop) : Prop where
  mk ::
  out : PV c e ρ M d M1 → PInM c tg e ρ M xs M1 Φ
section
variable {c : Cfg} {tg e a b : Expr} {ρ : Env} {M M1 M2 : Mem} {d x y : D} {xs ys : List D} {Φ : Mem → Prop} {s : List Nat} {kvs : List (DK × D)} {p : Addr}
theorem pin_of (h : PV c e ρ M d M1) (hx : PinX c tg e ρ M d M1 xs Φ) : PInM c tg e ρ M xs M1 Φ := hx.out h
theorem px_str : PinX c tg e ρ M (.str s) M1 (s.map fun k => .str [k]) fun _ => True := ⟨fun h => pin_str h⟩
theorem px_lst : PinX c tg e ρ M (.lst xs) M1 xs fun _ => True := ⟨fun h => pin_lst h⟩
theorem px_tup : PinX c tg e ρ M (.tup xs) M1 xs fun _ => True := ⟨fun h => pin_tup h⟩
theorem px_dct : PinX c tg e ρ M (.dct kvs) M1 (kvs.map fun kv => kD kv.1) fun _ => True := ⟨fun h => pin_keys h⟩
theorem px_lstM (hm : MAt M1 p (.lst xs)) : PinX c tg e ρ M (.ref p) M1 xs (fun N => MAt N p (.lst xs)) := ⟨fun h => pin_lstM h hm⟩
end
/-! join of nothing -/
section
variable {c : Cfg} {ρ : Env} {M M1 M2 : Mem} {pos apos cpos : Pos} {o e : Expr} {xs : List D} {s : List Nat}
theorem pv_join0 {ls : List (List Nat)} {s0 : List Nat} (ho : PV c o ρ M (.str s0) M1) (ha : PV c e ρ M1 (.lst xs) M2) (hx : xs = ls.map D.str) (hl : (ls.map List.length).sum ≤ 16777216) (h0 : s0 = [] := by first | rfl | decide +kernel)
    (hs : ∀ env : PySem.Env, starEach [e] env = [(false, eval e env)] := by intro _; rfl) (hbase : ∀ env : PySem.Env, attributeBase o "join" env (eval o env) = eval o env := by intro _; rfl) (hline : (apos.endLine == cpos.line) = true := by rfl) : PV c (.Call (.Attribute o "join" apos) [e] [] cpos) ρ M (.str ls.flatten) M2 :=
  pv_join (h0 ▸ ho) ha hx (by simpa using hl) join_nil hs hbase hline
theorem pv_join1 {l : List Nat} {s0 : List Nat} (ho : PV c o ρ M (.str s0) M1) (ha : PV c e ρ M1 (.lst xs) M2) (hx : xs = l.map fun k => D.str [k]) (hl : l.length ≤ 16777216) (h0 : s0 = [] := by first | rfl | decide +kernel)
    (hs : ∀ env : PySem.Env, starEach [e] env = [(false, eval e env)] := by intro _; rfl) (hbase : ∀ env : PySem.Env, attributeBase o "join" env (eval o env) = eval o env := by intro _; rfl) (hline : (apos.endLine == cpos.line) = true := by rfl) : PV c (.Call (.Attribute o "join" apos) [e] [] cpos) ρ M (.str l) M2 := by
  have h := pv_join0 (ls := l.map fun k => [k]) ho ha (by rw [hx, List.map_map]; rfl) (by
    rw [List.map_map]
    have : (l.map (List.length ∘ fun k => [k])).sum = l.length := by
      clear hx hl
      induction l with
      | nil => rfl
      | cons a l ih => simp [ih]; omega
    omega) h0 hs hbase hline
  rwa [flat_single] at h
theorem pv_find1 {k : Nat} (ho : PV c o ρ M (.str s) M1) (ha : PV c e ρ M1 (.str [k]) M2) (hk : k ∈ s)
    (hs : ∀ env : PySem.Env, starEach [e] env = [(false, eval e env)] := by intro _; rfl) (hbase : ∀ env : PySem.Env, attributeBase o "find" env (eval o env) = eval o env := by intro _; rfl) (hline : (apos.endLine == cpos.line) = true := by rfl) : PV c (.Call (.Attribute o "find" apos) [e] [] cpos) ρ M (.int (s.idxOf k : Nat)) M2 :=
  pv_find ho ha (find_one hk) hs hbase hline
end
/-- a if t else b, as data -/
theorem pv_ifd {c : Cfg} {ρ : Env} {M M1 M2 : Mem} {pos : Pos} {a b tt : Expr} {x y : D} {k : Bool} (ht : PB c tt ρ M k M1) (ha : k = true → PV c a ρ M1 x M2) (hb : k = false → PV c b ρ M1 y M2) : PV c (.IfExp tt a b pos) ρ M (if k = true then x else y) M2 :=
  pv_if ht (fun h => by rw [if_pos h]; exact ha h) (fun h => by rw [if_neg (by rw [h]; decide)]; exact hb h)
theorem pinM_eq {c : Cfg} {tg iter : Expr} {ρ : Env} {M M1 : Mem} {xs : List D} {Φ : Mem → Prop} (hi : PInM c tg iter ρ M xs M1 Φ) (hΦ : Φ M1) : PInM c tg iter ρ M xs M1 (fun N => N = M1) := .mk fun hE => by
  obtain ⟨wi, a, b⟩ := hi.out hE
  exact ⟨wi, a, fun F σ H S L R q => b F σ H S L R fun F' H' J S' g W => q F' H' J S' g fun F2 H2 M2 hs S2 e => W F2 H2 M2 hs S2 (by rw [e]; exact hΦ)⟩
/-- [e for x in .. for y in .. if ..] -/
theorem lc2_nm {c : Cfg} {n1 n2 : Str} {i j : Nat} {α β : Type} {l : List α} {m : α → List β} {t : α → β → Bool} {g : α → β → D} {inj : α → D} {inj1 : β → D} {iter iter1 elt : Expr} {ifs1 : List Expr} {scope : Scope} {ρ ρw : Env} {M M1 : Mem} {xs : List D} {Φ : Mem → Prop} {f : Option D → Env} {p1 p2 : Pos}
    (hi : PInM c (.Name n1 p1) iter ρ M xs M1 Φ) (hΦ : Φ M1) (hx : xs = l.map inj) (hn1 : c.N[i]? = some n1) (hn2 : c.N[j]? = some n2) (hw : Wipe ρ [(n1, i), (n2, j)] ρw) (hp : Put ρw n1 f) (hd : c.N.Nodup) (hz : (l.flatMap m).length ≤ sizeLine)
    (hs : ∀ a ∈ l, ∃ ρ1 f1 xs1, Wipe (f (some (inj a))) [(n2, j)] ρ1 ∧ Put ρ1 n2 f1 ∧ (∃ Φ1 : Mem → Prop, Φ1 M1 ∧ PInM (c.blk scope) (.Name n2 p2) iter1 (f (some (inj a))) M1 xs1 M1 Φ1) ∧ xs1 = (m a).map inj1 ∧ ∀ b ∈ m a, PIf (c.blk scope) ifs1 (f1 (some (inj1 b))) M1 (t a b) ∧ (t a b = true → PV (c.blk scope) elt (f1 (some (inj1 b))) M1 (g a b) M1))
    (hb : blkC c.N c.sc scope [(n1, i), (n2, j)] = true := by first | decide +kernel | (dsimp only; decide +kernel)) (hl : LocC (c.blk scope) n1 := by first | exact Or.inl rfl | exact Or.inr ⟨rfl, rfl⟩) (hl2 : LocC (c.blk scope) n2 := by first | exact Or.inl rfl | exact Or.inr ⟨rfl, rfl⟩) : Lc2D c (.Name n1 p1) iter (.Name n2 p2) iter1 elt ifs1 scope [(n1, i), (n2, j)] ρ M l m t g M1 :=
  .mk ⟨inj, inj1, [i], [j], [(n2, j)], _, _, ρw, by rw [← hx]; exact pinM_eq hi hΦ, hb, pgn_name hn1 hd hl, pgn_name hn2 hd hl2, fun k hk => by simp at hk; simp [hk], fun k hk => by simpa using hk, fun p hp => List.mem_cons_of_mem _ hp, hw, hz, fun a ha => by
    obtain ⟨ρ1, f1, xs1, h1, h2, ⟨Φ1, h3, h4⟩, h5, h6⟩ := hs a ha
    exact ⟨_, ρ1, ⟨f, hp, rfl⟩, h1, by rw [← h5]; exact pinM_eq h4 h3, fun b hb => ⟨_, ⟨f1, h2, rfl⟩, h6 b hb⟩⟩⟩
/-! what is no longer looked at -/
theorem MCut.away {K : PySem.W.Frag} {F H : Hp} {M M2 : Mem} {p : Addr} {o : MO} (a : MCut M p o M2) (S : Sit K F M H) : Sit K F M2 H ∧ Go M F H M2 F H :=
  ⟨⟨S.fh, (a.ok S.ok).1⟩, Same.refl _, fun _ _ _ e => e, fun _ _ e _ => e, fun q hq => .inl (a.sub q hq)⟩
theorem pv_drop {c : Cfg} {e : Expr} {ρ : Env} {M M1 M2 : Mem} {d : D} {p : Addr} {o : MO} (h : PV c e ρ M d M1) (hc : MCut M1 p o M2) : PV c e ρ M d M2 := .mk fun hE => by
  obtain ⟨t, a1, a2⟩ := h.out hE
  refine ⟨t, a1, fun F σ H S L Q q => a2 F σ H S L _ fun F1 H1 v x M1' ⟨e1, e2⟩ S1 g1 p1 => ?_⟩
  subst e1 e2
  obtain ⟨S2, g2⟩ := hc.away S1
  exact q _ _ _ _ _ ⟨rfl, rfl⟩ S2 (g1.trans g2) p1
theorem ss_drop {c : Cfg} {sts : List Stmt} {ρ : Env} {M M2 : Mem} {P : Post} {p : Addr} {o : MO} (hc : MCut M p o M2) (h : PSsn c sts ρ M2 P) : PSsn c sts ρ M P := .mk fun hE => by
  obtain ⟨t, a1, a2⟩ := h.out hE
  refine ⟨t, a1, fun F σ H S L D f => ?_⟩
  obtain ⟨S2, g2⟩ := hc.away S
  exact a2 F σ H S2 L D (f.go g2)
theorem kS (l : List Nat) : D.str l = kD (Sum.inr l) := rfl
theorem kI (n : Int) : D.int n = kD (Sum.inl n) := rfl
theorem pf0 {f : Str} {d : D} : putFd f d [] = [(f, d)] := rfl
theorem pfH {f : Str} {d y : D} {r : List (Str × D)} : putFd f d ((f, y) :: r) = (f, d) :: r := if_pos rfl
theorem pfS {f g : Str} {d y : D} {r r' : List (Str × D)} (h : (g == f) = false) (q : putFd f d r = r') : putFd f d ((g, y) :: r) = (g, y) :: r' := by
  unfold putFd
  rw [if_neg (by simpa using h), q]
theorem ss_fldF {c : Cfg} {ρ : Env} {M M1 M2 M3 : Mem} {e o : Expr} {d : D} {p : Addr} {C : Addr} {fs : List (Str × D)} {P : Post} {f : Str} {apos pos : Pos} {sts : List Stmt} (hv : PV c e ρ M d M1) (ho : PV c o ρ M1 (.ref p) M2) (hm : MAt M2 p (.ins C fs)) (k : FlK c.K c.mg C f) {gs : List (Str × D)} (hl : fs.length < 1000) (hq : putFd f d fs = gs) (hp : MPut M2 p (.ins C gs) M3) (q : PSsn c sts ρ M3 P)
    (hs : ∀ env : PySem.Env, swapsWith e (some (.Attribute o f apos)) pos.line env = pure false := by intro _; rfl) : PSsn c (.Assign [.Attribute o f apos] e pos :: sts) ρ M P := pss_cons' (ps_fld' hv ho hm k hl (by rw [hq]; exact hp) q hs)
/-! lists of plain numbers, and of such lists -/
abbrev nD (n : Nat) : D := .int n
abbrev rowL (r : List Nat) : D := .lst (r.map nD)
abbrev rowT (r : List Nat) : D := .tup (r.map nD)
section
variable {c : Cfg} {a b : Expr} {ρ : Env} {M M1 M2 : Mem} {pos : Pos} {i : Nat} {l : List Nat} {ls : List (List Nat)} {p : Addr}
theorem map_at {α : Type} {f : α → D} {l : List α} {i : Nat} (d : α) (h : i < l.length) : (l.map f)[i]? = some (f (l.getD i d)) := by
  rw [List.getElem?_map, List.getElem?_eq_getElem h, List.getD_eq_getElem?_getD, List.getElem?_eq_getElem h]; rfl
theorem ix_nL (h : i < l.length) (hs : PlX b := by exact fun _ _ => rfl) : IxD c a b ρ M (.lst (l.map nD)) M1 (.int (i : Nat)) M2 (.int (l.getD i 0 : Nat)) pos := ix_L (Int.natCast_nonneg i) (by rw [Int.toNat_natCast]; exact map_at 0 h) hs
theorem ix_nT (h : i < l.length) (hs : PlX b := by exact fun _ _ => rfl) : IxD c a b ρ M (.tup (l.map nD)) M1 (.int (i : Nat)) M2 (.int (l.getD i 0 : Nat)) pos := ix_T (Int.natCast_nonneg i) (by rw [Int.toNat_natCast]; exact map_at 0 h) hs
theorem ix_nM (hm : MAt M2 p (.lst (l.map nD))) (h : i < l.length) (hs : PlX b := by exact fun _ _ => rfl) : IxD c a b ρ M (.ref p) M1 (.int (i : Nat)) M2 (.int (l.getD i 0 : Nat)) pos := ix_M hm (Int.natCast_nonneg i) (by rw [Int.toNat_natCast]; exact map_at 0 h) hs
theorem ix_rT (h : i < ls.length) (hs : PlX b := by exact fun _ _ => rfl) : IxD c a b ρ M (.tup (ls.map rowT)) M1 (.int (i : Nat)) M2 (rowT (ls.getD i [])) pos := ix_T (Int.natCast_nonneg i) (by rw [Int.toNat_natCast]; exact map_at [] h) hs
theorem ix_rL (h : i < ls.length) (hs : PlX b := by exact fun _ _ => rfl) : IxD c a b ρ M (.lst (ls.map rowL)) M1 (.int (i : Nat)) M2 (rowL (ls.getD i [])) pos := ix_L (Int.natCast_nonneg i) (by rw [Int.toNat_natCast]; exact map_at [] h) hs
theorem ix_r0T (h : 0 < ls.length) (hs : PlX b := by exact fun _ _ => rfl) : IxD c a b ρ M (.tup (ls.map rowT)) M1 (.int 0) M2 (rowT (ls.getD 0 [])) pos := ix_rT h hs
theorem ix_r0L (h : 0 < ls.length) (hs : PlX b := by exact fun _ _ => rfl) : IxD c a b ρ M (.lst (ls.map rowL)) M1 (.int 0) M2 (rowL (ls.getD 0 [])) pos := ix_rL h hs
end
theorem zip_get {α β : Type} {f : α → D} {g : β → D} {l : List α} {m : List β} {i : Nat} {x : D} (h : (zipD (l.map f) (m.map g))[i]? = some x) : ∃ a b, l[i]? = some a ∧ m[i]? = some b ∧ x = .tup [f a, g b] := by
  unfold zipD at h
  rw [List.getElem?_zipWith, List.getElem?_map, List.getElem?_map] at h
  cases e1 : l[i]? with
  | none => rw [e1] at h; simp at h
  | some a =>
    cases e2 : m[i]? with
    | none => rw [e1, e2] at h; simp at h
    | some b => rw [e1, e2] at h; exact ⟨a, b, rfl, rfl, by simpa using h.symm⟩
theorem enum_get {α : Type} {f : α → D} {l : List α} {i : Nat} {x : D} (h : (enumD (l.map f))[i]? = some x) : ∃ a, l[i]? = some a ∧ x = .tup [.int (i : Nat), f a] := by
  unfold enumD at h
  rw [List.getElem?_mapIdx, List.getElem?_map] at h
  cases e1 : l[i]? with
  | none => rw [e1] at h; simp at h
  | some a => rw [e1] at h; exact ⟨a, rfl, by simpa using h.symm⟩
theorem map_get {α : Type} {f : α → D} {l : List α} {i : Nat} {x : D} (h : (l.map f)[i]? = some x) : ∃ a, l[i]? = some a ∧ i < l.length ∧ x = f a := by
  rw [List.getElem?_map] at h
  cases e1 : l[i]? with
  | none => rw [e1] at h; simp at h
  | some a => rw [e1] at h; exact ⟨a, rfl, (List.getElem?_eq_some_iff.mp e1).1, by simpa using h.symm⟩
theorem zip_len {xs ys : List D} : (zipD xs ys).length = min xs.length ys.length := by unfold zipD; exact List.length_zipWith
theorem enum_len {xs : List D} : (enumD xs).length = xs.length := by unfold enumD; exact List.length_mapIdx
/-- a set of numbers, as the keys of a dict -/
abbrev setD (f : List Nat) : List (DK × D) := f.map fun x : Nat => (Sum.inl (x : Int), D.bl true)
theorem look_set {f : List Nat} {y : Nat} : (look (setD f) (Sum.inl (y : Int))).isSome = decide (y ∈ f) := by
  induction f with
  | nil => rfl
  | cons a f ih =>
    show (if (Sum.inl (a : Int) : DK) = Sum.inl (y : Int) then some (D.bl true) else look (setD f) _).isSome = _
    by_cases e : a = y
    · subst e; rw [if_pos rfl]; simp
    · rw [if_neg fun q => e (inl_inj _ _ q), ih]
      simp [Ne.symm e]
theorem put_set {f : List Nat} {y : Nat} (h : y ∉ f) : put (setD f) (Sum.inl (y : Int)) (D.bl true) = setD (f ++ [y]) := by
  unfold put
  rw [look_set, decide_eq_false h]
  simp [setD]
/-- a dict comprehension with unlike keys -/
theorem dcAcc_nd {α : Type} {gk : α → DK} {gv : α → D} : ∀ {l : List α}, (l.map gk).Nodup → dcAcc l (fun _ => true) gk gv = l.map fun a => (gk a, gv a) := by
  intro l
  have key : ∀ (l r : List α), ((r ++ l).map gk).Nodup → l.foldl (fun acc a => if true = true then put acc (gk a) (gv a) else acc) (r.map fun a => (gk a, gv a)) = (r ++ l).map fun a => (gk a, gv a) := by
    intro l
    induction l with
    | nil => intro r _; simp
    | cons a l ih =>
      intro r h
      have hn : look (r.map fun a => (gk a, gv a)) (gk a) = none := by
        cases e : look (r.map fun a => (gk a, gv a)) (gk a) with
        | none => rfl
        | some z =>
          have := look_mem.mp (show (look (r.map fun a => (gk a, gv a)) (gk a)).isSome = true by rw [e]; rfl)
          rw [List.map_map] at this
          obtain ⟨b, hb, e2⟩ := List.mem_map.mp this
          rw [List.map_append, List.nodup_append] at h
          exact absurd e2 (h.2.2 _ (List.mem_map_of_mem hb) _ (by simp))
      have e : (if true = true then put (r.map fun a => (gk a, gv a)) (gk a) (gv a) else r.map fun a => (gk a, gv a)) = (r ++ [a]).map fun a => (gk a, gv a) := by
        rw [if_pos rfl]; unfold put; rw [hn]; simp
      rw [List.foldl_cons, e, ih (r ++ [a]) (by simpa using h)]
      simp
  intro h
  exact key l [] (by simpa using h)
/-- the numbers of things as they stand -/
abbrev numD (f : List Nat) : List (DK × D) := f.zipIdx.map fun a : Nat × Nat => (Sum.inl (a.1 : Int), D.int (a.2 : Int))
theorem look_num : ∀ {f : List Nat} {y k : Nat}, y ∈ f → look ((f.zipIdx k).map fun a : Nat × Nat => ((Sum.inl (a.1 : Int) : DK), D.int (a.2 : Int))) (Sum.inl (y : Int)) = some (D.int ((k + f.idxOf y : Nat) : Int))
  | [], _, _, h => by cases h
  | a :: f, y, k, h => by
    rw [List.zipIdx_cons, List.map_cons]
    show (if (Sum.inl (a : Int) : DK) = Sum.inl (y : Int) then some _ else look _ _) = _
    by_cases e : a = y
    · subst e; rw [if_pos rfl]; simp
    · rw [if_neg fun q => e (inl_inj _ _ q)]
      rcases List.mem_cons.mp h with q | q
      · exact absurd q.symm e
      · rw [look_num q, List.idxOf_cons, show (a == y) = false by simpa using e, cond_false, show k + 1 + f.idxOf y = k + (f.idxOf y + 1) by omega]
theorem enum_zip (f : List Nat) : enumD (f.map nD) = f.zipIdx.map fun a : Nat × Nat => D.tup [.int (a.2 : Int), nD a.1] := by
  unfold enumD
  refine List.ext_getElem? fun i => ?_
  simp only [List.getElem?_mapIdx, List.getElem?_map, List.getElem?_zipIdx, Option.map_map]
  cases f[i]? <;> simp
/-! dicts displayed -/
inductive PPsD (c : Cfg) (ρ : Env) : List (Option Expr) → List Expr → Mem → List (DK × D) → Mem → Prop where
  | nil {M : Mem} : PPsD c ρ [] [] M [] M
  | cons {k v : Expr} {ks : List (Option Expr)} {vs : List Expr} {M M1 M2 M' : Mem} {y d : D} {j : DK} {r : List (DK × D)} (hk : PV c k ρ M y M1) (hy : y = kD j) (hv : PV c v ρ M1 d M2) (hr : PPsD c ρ ks vs M2 r M') : PPsD c ρ (some k :: ks) (v :: vs) M ((j, d) :: r) M'
def starP (c : Cfg) : List (Option Expr) → List Expr → List (TE × TE)
  | some k :: ks, v :: vs => (starE c k, starE c v) :: starP c ks vs
  | _, _ => []
section
variable {c : Cfg} {ρ : Env} {M M' M1 : Mem} {keys : List (Option Expr)} {values : List Expr} {kvs : List (DK × D)} {pos : Pos}
theorem PPsD.ok (h : PPsD c ρ keys values M kvs M') : (∀ X, c.Has X → PPs X pos keys values (starP c keys values)) ∧ keys.all (·.isSome) = true ∧ keys.length = values.length := by
  induction h with
  | nil => exact ⟨fun X _ => pps_nil, rfl, rfl⟩
  | cons hk hy hv hr ih => exact ⟨fun X hX => pps_cons (starE_ok X hX) (starE_ok X hX) (ih.1 X hX), by simp [ih.2.1], by simp [ih.2.2]⟩
theorem PPsD.ev (hE : EnvOk c ρ) (h : PPsD c ρ keys values M kvs M') : ∀ F σ H, Sit c.K F M H → Slots c.K F ρ σ → ∀ Q : List (V × V) → Hp → Prop, (∀ F' H' ws, Sit c.K F' M' H' → Go M F H M' F' H' → RepK c.K F' kvs ws → Q (ws.map fun kv => (kV kv.1, kv.2)) H') → tPairs (starP c keys values) σ H Q := by
  induction h with
  | nil => exact fun F σ H S L Q q => q F H [] S Go.refl (repK_nil.mpr rfl)
  | @cons k v ks vs M M1 M2 M' y d j r hk hy hv hr ih =>
    intro F σ H S L Q q
    refine starE_ev hk hE F σ H S L _ fun F1 H1 x d1 M1' ⟨e1, e2⟩ S1 g1 p1 => ?_
    subst e1 e2
    refine starE_ev hv hE F1 σ H1 S1 (L.mono g1.ff) _ fun F2 H2 y2 d2 M2' ⟨e1, e2⟩ S2 g2 p2 => ?_
    subst e1 e2
    refine ih F2 σ H2 S2 (L.mono (g1.ff.trans g2.ff)) _ fun F3 H3 ws S3 g3 r3 => ?_
    rw [hy] at p1
    have := q F3 H3 ((j.k, y2) :: ws) S3 ((g1.trans g2).trans g3) (repK_cons.mpr ⟨_, _, rfl, p2.mono g3.ff, r3⟩)
    rwa [List.map_cons, ← rep_key (H := H1) p1] at this
theorem pn_disp (h : ∀ p, PPsD c ρ keys values ((p, .dK []) :: M) kvs ((p, .dK []) :: M1)) (h0 : keys ≠ [] := by simp) (h15 : keys.length ≤ 15 := by decide) (hk15 : kvs.length ≤ 15 := by simp) : PN c (.Dict keys values pos) ρ M (fun d N => ∃ p, d = .ref p ∧ N = (p, .dK (mrg [] kvs)) :: M1) := .mk fun hE => by
  refine ⟨tDisp (starP c keys values), fun X hX => pe_disp ((h 0).ok.1 X hX) ((h 0).ok (pos := pos)).2.1 ((h 0).ok (pos := pos)).2.2 h0 h15, fun F σ H S L Q q p hp => ?_⟩
  obtain ⟨S1, g1⟩ := S.newM (o := .dK []) hp ⟨[], rfl, repK_nil.mpr rfl⟩
  refine (h p).ev hE F σ _ S1 L _ fun F' H' ws S2 g2 r2 => ?_
  obtain ⟨_, u, hu, vs, e, r0⟩ := (MAt.here (p := p) (o := .dK []) (m := M1)).get S2.ok
  rw [repK_nil.mp r0] at e
  subst e
  refine ⟨hu, ws, rfl, by have := r2.len; omega, ?_⟩
  obtain ⟨S3, g3⟩ := S2.put (MPut.here (p := p) (o := .dK []) (o' := .dK (mrg [] kvs)) (m := M1)) (u := .dK (mergeK [] ws)) ⟨_, rfl, repK_mrg r2 (repK_nil.mpr rfl)⟩
  exact q _ _ _ _ _ ⟨p, rfl, rfl⟩ S3 ((g1.trans g2).trans g3) (rep_ref.mpr rfl)
end
/-! comprehensions over pairs of names -/
section
variable {c : Cfg} {n1 n2 : Str} {i j kk : Nat} {α : Type} {l : List α} {t : α → Bool} {gk : α → DK} {gv g : α → D} {iter kx vx elt : Expr} {ifs : List Expr} {scope : Scope} {ρ ρw : Env} {M M1 : Mem} {xs : List D} {Φ : Mem → Prop} {p1 p2 p3 : Pos} {inj1 inj2 : α → D} {f : Option D → Env} {f2 : Option D → Option D → Env}
theorem dc_nm2 (hi : PInM c (.Tuple [.Name n1 p1, .Name n2 p2] kk p3) iter ρ M xs M1 Φ) (hΦ : Φ M1) (hx : xs = l.map fun a => .tup [inj1 a, inj2 a]) (hn1 : c.N[i]? = some n1) (hn2 : c.N[j]? = some n2) (hw : Wipe ρ [(n1, i), (n2, j)] ρw) (hp : Put ρw n1 f) (hp2 : ∀ o, Put (f o) n2 (f2 o)) (hd : c.N.Nodup) (hz : l.length ≤ sizeLine)
    (hs : ∀ a ∈ l, PIf (c.blk scope) ifs (f2 (some (inj1 a)) (some (inj2 a))) M1 (t a) ∧ (t a = true → (∃ y, PV (c.blk scope) kx (f2 (some (inj1 a)) (some (inj2 a))) M1 y M1 ∧ y = kD (gk a)) ∧ PV (c.blk scope) vx (f2 (some (inj1 a)) (some (inj2 a))) M1 (gv a) M1))
    (hb : blkC c.N c.sc scope [(n1, i), (n2, j)] = true := by first | decide +kernel | (dsimp only; decide +kernel)) (hl : LocC (c.blk scope) n1 := by first | exact Or.inl rfl | exact Or.inr ⟨rfl, rfl⟩) (hl2 : LocC (c.blk scope) n2 := by first | exact Or.inl rfl | exact Or.inr ⟨rfl, rfl⟩) : DcD c (.Tuple [.Name n1 p1, .Name n2 p2] kk p3) iter kx vx ifs scope [(n1, i), (n2, j)] ρ M l t gk gv M1 :=
  .mk ⟨fun a => .tup [inj1 a, inj2 a], [i, j], _, ρw, by rw [← hx]; exact pinM_eq hi hΦ, hb, pgn_nm2 hn1 hn2 hd hl hl2, by simp, hw, hz, fun a ha => ⟨_, ⟨_, _, f, f2 _, rfl, hp, hp2 _, rfl⟩, (hs a ha).1, fun ht => let ⟨⟨y, h1, h2⟩, h3⟩ := (hs a ha).2 ht; ⟨h2 ▸ h1, h3⟩⟩⟩
theorem lc_nm2 (hi : PInM c (.Tuple [.Name n1 p1, .Name n2 p2] kk p3) iter ρ M xs M1 Φ) (hΦ : Φ M1) (hx : xs = l.map fun a => .tup [inj1 a, inj2 a]) (hn1 : c.N[i]? = some n1) (hn2 : c.N[j]? = some n2) (hw : Wipe ρ [(n1, i), (n2, j)] ρw) (hp : Put ρw n1 f) (hp2 : ∀ o, Put (f o) n2 (f2 o)) (hd : c.N.Nodup) (hz : l.length ≤ sizeLine)
    (hs : ∀ a ∈ l, PIf (c.blk scope) ifs (f2 (some (inj1 a)) (some (inj2 a))) M1 (t a) ∧ (t a = true → PV (c.blk scope) elt (f2 (some (inj1 a)) (some (inj2 a))) M1 (g a) M1))
    (hb : blkC c.N c.sc scope [(n1, i), (n2, j)] = true := by first | decide +kernel | (dsimp only; decide +kernel)) (hl : LocC (c.blk scope) n1 := by first | exact Or.inl rfl | exact Or.inr ⟨rfl, rfl⟩) (hl2 : LocC (c.blk scope) n2 := by first | exact Or.inl rfl | exact Or.inr ⟨rfl, rfl⟩) : LcD c (.Tuple [.Name n1 p1, .Name n2 p2] kk p3) iter elt ifs scope [(n1, i), (n2, j)] ρ M l t g M1 :=
  .mk ⟨fun a => .tup [inj1 a, inj2 a], [i, j], _, ρw, by rw [← hx]; exact pinM_eq hi hΦ, hb, pgn_nm2 hn1 hn2 hd hl hl2, by simp, hw, hz, fun a ha => ⟨_, ⟨_, _, f, f2 _, rfl, hp, hp2 _, rfl⟩, hs a ha⟩⟩
end
end Dl

set_option Elab.async false
set_option linter.all false
set_option maxRecDepth 100000
set_option maxHeartbeats 4000000
/-! Dl: AD: a name becomes a dict comprehension. -/
namespace L2
open PySem PySem.Spec PyProof.Rows
section
variable {X : Cx}
theorem sw_trueD {kx vx : Expr} {gs : List Comprehension} {scope : Scope} {pos py : Pos} {y : Str} {l : Nat} {env : Env} (hk : env.scope.kind = .function) (hy : env.scope.names.lookup y = some .local) (hl : (py.line == pos.line) = true)
    (ha : (scope.names.any fun (n, k) => n == y && (k == .local || k == .cell)) = false) : swapsWith (.DictComp kx vx gs scope pos) (some (.Name y py)) l env = pure true := by
  have ky : env.kindOf y = some .local := hy
  have hb : env.blockKind = .function := by unfold Env.blockKind; rw [hk]; rfl
  unfold swapsWith
  simp only [hb, ky, ha, Expr.pos, hl]
  rfl
theorem ps_setDc {i : Nat} {y : Str} {py : Pos} {kx vx tg iter : Expr} {ifs : List Expr} {scope : Scope} {own : List (Str × Nat)} {pos spos : Pos} {wi : TI} {g : TG} {tt : TT} {tk tv : TE} (hc : X.calm = true) (hN : X.N.Nodup) (hy : X.N[i]? = some y) (hyl : X.env.scope.names.lookup y = some .local)
    (hsw : swapsWith (.DictComp kx vx [⟨tg, iter, ifs, 0⟩] scope pos) (some (.Name y py)) spos.line X.env = pure true) (hi : PI X tg iter wi) (ok : BlkOk X.N X.env.scope scope own)
    (hg : ∀ (s : Shared) (H : Hp) (C : Addr) (cl : List (Str × Addr)) (fp : List Addr), PG (X.blk s H scope (compEnvC scope cl C X.env) fp) tg g) (ht : ∀ (s : Shared) (H : Hp) (C : Addr) (cl : List (Str × Addr)) (fp : List Addr), PTs (X.blk s H scope (compEnvC scope cl C X.env) fp) ifs tt)
    (hk : ∀ (s : Shared) (H : Hp) (C : Addr) (cl : List (Str × Addr)) (fp : List Addr), PE (X.blk s H scope (compEnvC scope cl C X.env) fp) kx tk)
    (he : ∀ (s : Shared) (H : Hp) (C : Addr) (cl : List (Str × Addr)) (fp : List Addr), PE (X.blk s H scope (compEnvC scope cl C X.env) fp) vx tv) (hs : ∀ x, foldedSetIterable iter X.env x = pure x := by intro _; rfl) :
    PS X (.Assign [.Name y py] (.DictComp kx vx [⟨tg, iter, ifs, 0⟩] scope pos) spos) (tAsg (tDc wi g tt tk tv (own.map (·.2))) (gName i)) := by
  refine ⟨fun pins s σ H D I h => ?_⟩
  rw [exec_Assign_Name_used _ _ _ _ hsw]
  refine wpAny_bind (wpAny_standAt (wpAny_bind ?_))
  show wpAny _ X.A (do let _ ← comprehension (.DictComp kx vx [⟨tg, iter, ifs, 0⟩] scope pos) scope X.env (firstIterPos [⟨tg, iter, ifs, 0⟩] pos) newDict false (eval iter X.env) (some (assign (.Name y py) X.env))) _ _ s
  have h : tDc wi g tt tk tv (own.map (·.2)) σ H (fun x H1 => gName i x σ H1 D.nx) := h
  refine wpAny_bind (thn (dc_core (Qf := fun _ s' => SP X pins D .next s') hc hN I hi ok hg ht hk he hs h fun L C s' m H' I' q hn f => ?_) fun _ s' hq => wpAny_pure (wpAny_pure hq))
  show wpAny _ _ (assign (.Name y py) X.env (.ref L)) _ _ _
  refine wpAny_assign_Name (store_ok2 (v := V.ref L) I' hN hy (.inl hyl) rfl (fun s2 I2 ⟨a, sb, ha⟩ => ?_) (.inr hyl))
  obtain ⟨f0, f1, f2, f3, f4, f5⟩ := f
  have haC : C ≠ a := by
    rcases ha with z | z
    · rw [z]; exact f1
    · exact fun e => f4 y a z e.symm
  refine ⟨m, hn.sameBut sb haC, fun h3 sb3 => ?_⟩
  exact ⟨_, H', I2.turned (t' := s2.toks) (fun b o hb e => (sb3.2 b hb).trans e) f0 f1 f3 f4 f5, q⟩
end
end L2
namespace Dl
open PySem PySem.Spec L2
section
variable {c : Cfg} {ρ : Env} {M M1 : Mem} {pos py spos : Pos} {tg iter kx vx : Expr} {ifs : List Expr} {scope : Scope} {own : List (Str × Nat)} {α : Type} {l : List α} {t : α → Bool} {gk : α → DK} {gv : α → D} {P : Post} {sts : List Stmt}
/-- what goes on while the dict is made -/
theorem dc_run (h : DcD c tg iter kx vx ifs scope own ρ M l t gk gv M1) (hE : EnvOk c ρ) : ∃ (wi : TI) (gt : TG), (∀ X, c.Has X → PI X tg iter wi) ∧ (∀ X, c.Has X → BlkOk X.N X.env.scope scope own) ∧ (∀ X, (c.blk scope).Has X → PG X tg gt) ∧
    EvR c.K (tDc wi gt (starTs (c.blk scope) ifs) (starE (c.blk scope) kx) (starE (c.blk scope) vx) (own.map (·.2))) ρ M (fun d N => ∃ p, d = .ref p ∧ N = (p, .dK (dcAcc l t gk gv)) :: M1) := by
  obtain ⟨inj, is, f, ρw, hi, hb, ⟨gt, g1, g2⟩, his, hw, hz, hs⟩ := h.out
  obtain ⟨wi, w1, w2⟩ := hi.out hE
  refine ⟨wi, gt, w1, fun X hX => by rw [hX.N, hX.sc]; exact blkOk_by hb, g1, fun F0 σ H0 S0 L0 Q q => w2 F0 σ H0 S0 L0 _ fun F1 H1 J S1 go1 W => ?_⟩
  intro Dd hDd
  refine ⟨fun i m H => m = l.length - i ∧ i ≤ l.length ∧ ∃ F ws, Bld c.K M1 F1 H1 Dd F H (.dK ws) ∧ RepK c.K F (dcAcc (l.take i) t gk gv) ws, ⟨_, rfl, Nat.zero_le _, F1, [], Bld.start S1 hDd, by simp [dcAcc, repK_nil]⟩, ?_⟩
  rintro i m H ⟨rfl, hi, F, ws, B, r⟩
  obtain ⟨Wi, Ws⟩ := W F H M1 B.go.ff B.sit rfl
  by_cases hlt : i < l.length
  · obtain ⟨jg, jy⟩ := Wi i (inj l[i]) (by simp [hlt])
    refine .inr ⟨jg, fun H' => ∃ F ws, Bld c.K M1 F1 H1 Dd F H' (.dK ws) ∧ RepK c.K F (dcAcc (l.take (i + 1)) t gk gv) ws, fun H' x => ⟨l.length - (i + 1), by omega, rfl, hlt, x⟩, fun v H3 y => ?_⟩
    obtain ⟨F3, r3, S3, go3⟩ := jy v H3 y
    have B3 := B.step hDd S3 go3
    obtain ⟨ρ', hf', hif, hel⟩ := hs l[i] (List.getElem_mem hlt)
    obtain ⟨Ew, hwS⟩ := hw.ok (c := c) (K := c.K) (F := F3) hE (lc_own hb)
    obtain ⟨E', k⟩ := g2 _ ρw ρ' hf' Ew
    refine k F3 (wipe σ (own.map (·.2))) H3 M1 v S3 (hwS σ ((L0.mono go1.ff).mono (B.go.ff.trans go3.ff))) r3 _ fun σ2 L2 wq => ?_
    refine ⟨?_, ?_⟩
    · rw [wq _ his, wipe_idem]
    refine pif_ev hif E' F3 σ2 H3 S3 L2 _ fun F4 H4 kk M4 ⟨e1, e2⟩ S4 go4 => ?_
    subst e1 e2
    have B4 := B3.step hDd S4 go4
    have r4 := (r.mono go3.ff).mono go4.ff
    have et : l.take (i + 1) = l.take i ++ [l[i]] := by rw [List.take_add_one]; simp [hlt]
    cases hk : t l[i] with
    | false =>
      rw [if_neg Bool.false_ne_true]
      refine ⟨F4, ws, B4, ?_⟩
      rw [et, dcAcc_snoc, hk, if_neg Bool.false_ne_true]
      exact r4
    | true =>
      rw [if_pos rfl]
      obtain ⟨hK, hV⟩ := hel hk
      refine starE_ev hK E' F4 σ2 H4 S4 (L2.mono go4.ff) _ fun F5 H5 u d M5 ⟨e1, e2⟩ S5 go5 p5 => ?_
      subst e1 e2
      have B5 := B4.step hDd S5 go5
      refine starE_ev hV E' F5 σ2 H5 S5 (L2.mono (go4.ff.trans go5.ff)) _ fun F6 H6 u2 d2 M6 ⟨e1, e2⟩ S6 go6 p6 => ?_
      subst e1 e2
      have B6 := B5.step hDd S6 go6
      have r6 := (r4.mono go5.ff).mono go6.ff
      refine ⟨ws, (gk l[i]).k, rep_kD p5, B6.at_, ?_, F6, _, B6.upd, ?_⟩
      · have h1 := dcAcc_len (l := l) (t := t) (gk := gk) (gv := gv) i
        rw [List.length_take] at h1
        rw [r.len]; omega
      · rw [et, dcAcc_snoc, hk, if_pos rfl]
        exact r6.put p6
  · have e : i = l.length := by omega
    subst e
    rw [List.take_length] at r
    refine .inl ⟨by rw [← List.length_map (f := inj)]; exact Ws, ?_⟩
    obtain ⟨SD, goD⟩ := B.fin hDd (mo := .dK (dcAcc l t gk gv)) ⟨ws, rfl, r⟩
    exact q _ _ _ _ _ ⟨Dd, rfl, rfl⟩ SD (go1.trans goD) (rep_ref.mpr rfl)
/-- y = {..} -/
theorem ss_setDc {y : Str} {fp : Option D → Env} (hp : Put ρ y fp) (h : DcD c tg iter kx vx ifs scope own ρ M l t gk gv M1) (q : ∀ p, PSsn c sts (fp (some (.ref p))) ((p, .dK (dcAcc l t gk gv)) :: M1) P) (hy : c.sc.names.lookup y = some .local := by rfl) (hk : c.sc.kind = .function := by rfl) (hl : (py.line == pos.line) = true := by rfl)
    (ho : (scope.names.any fun (n, k) => n == y && (k == .local || k == .cell)) = false := by decide +kernel) (hf : ∀ (env : PySem.Env) x, foldedSetIterable iter env x = pure x := by intro _ _; rfl) : PSsn c (.Assign [.Name y py] (.DictComp kx vx [⟨tg, iter, ifs, 0⟩] scope pos) spos :: sts) ρ M P :=
  pss_cons' (.mk fun hE => by
    obtain ⟨wi, gt, a1, a2, a3, a4⟩ := dc_run h hE
    obtain ⟨i, hi, _⟩ := pg_nm (pos := py) hp (.inl hy) hE
    refine ⟨_, fun X hX => ps_setDc (i := i) (own := own) hX.calm hX.nd (by rw [hX.N]; exact hi) (by rw [hX.sc]; exact hy) (sw_trueD (by rw [hX.sc]; exact hk) (by rw [hX.sc]; exact hy) hl ho) (a1 X hX) (a2 X hX) (fun s H C cl fp => a3 _ (blk_has hX s H scope C cl fp)) (fun s H C cl fp => starTs_ok _ (blk_has hX s H scope C cl fp)) (fun s H C cl fp => starE_ok _ (blk_has hX s H scope C cl fp)) (fun s H C cl fp => starE_ok _ (blk_has hX s H scope C cl fp)) (hf _), fun F σ H S L D f' => a4 F σ H S L _ fun F' H' v d M' ⟨p, e1, e2⟩ S' g' r => ?_⟩
    subst e1 e2
    obtain ⟨h1, h2⟩ := put_ok hp hE hi (L.mono g'.ff) r
    exact f'.nx F' H' _ _ _ (q p) h1 S' h2 g')
end
/-! a name that inner scopes see becomes a comprehension -/
section
variable {c : Cfg} {ρ : Env} {M M1 : Mem} {pos p2 p3 : Pos} {e : Expr} {d : D} {P : Post} {sts : List Stmt} {nm : Str} {f : Option D → Env}
theorem sw_cell {env : PySem.Env} {value : Expr} {y : Str} {py : Pos} {l : Nat} (hy : env.scope.names.lookup y = some .cell) : swapsWith value (some (.Name y py)) l env = pure false := by
  have ky : env.kindOf y = some .cell := hy
  unfold swapsWith
  split
  · simp only [ky]
    have : (some NameKind.cell == some NameKind.local) = false := by decide
    simp only [this, Bool.and_false, Bool.false_and]
  · rfl
theorem ss_setE (hp : Put ρ nm f) (h : PN c e ρ M fun d N => PSsn c sts (f (some d)) N P) (hy : c.sc.names.lookup nm = some .cell := by rfl) (ht : c.top nm = true := by rfl) (hw : ∀ env : PySem.Env, swappedStores [.Name nm p2] e env = pure none := by intro _; rfl) : PSsn c (.Assign [.Name nm p2] e pos :: sts) ρ M P := pss_cons' (.mk fun hE => by
  obtain ⟨t, a, b⟩ := h.out hE
  obtain ⟨i, hi, hg⟩ := pg_nm (pos := p2) hp (.inr ⟨ht, hy⟩) hE
  refine ⟨tAsg t (gName i), fun X hX => ps_asg (a X hX) (hg X hX) (sw_cell (l := pos.line) (by rw [hX.sc]; exact hy)) (hw _), fun F σ H S L D f' => b F σ H S L _ fun F' H' v d M' n S' g r => ?_⟩
  obtain ⟨h1, h2⟩ := put_ok hp hE hi (L.mono g.ff) r
  exact f'.nx F' H' _ _ M' n h1 S' h2 g)
end
theorem pv_eq {c : Cfg} {e : Expr} {ρ : Env} {M M1 : Mem} {d d' : D} (h : PV c e ρ M d M1) (q : d = d') : PV c e ρ M d' M1 := q ▸ h
section
variable {c : Cfg} {a b : Expr} {ρ : Env} {M M1 M2 : Mem} {pos : Pos} {i : Nat} {l : List (List Nat)} {p : Addr}
theorem ix_sL (h : i < l.length) (hs : PlX b := by exact fun _ _ => rfl) : IxD c a b ρ M (.lst (l.map D.str)) M1 (.int (i : Nat)) M2 (.str (l.getD i [])) pos := ix_L (Int.natCast_nonneg i) (by rw [Int.toNat_natCast]; exact map_at [] h) hs
theorem ix_sT (h : i < l.length) (hs : PlX b := by exact fun _ _ => rfl) : IxD c a b ρ M (.tup (l.map D.str)) M1 (.int (i : Nat)) M2 (.str (l.getD i [])) pos := ix_T (Int.natCast_nonneg i) (by rw [Int.toNat_natCast]; exact map_at [] h) hs
theorem ix_sM (hm : MAt M2 p (.lst (l.map D.str))) (h : i < l.length) (hs : PlX b := by exact fun _ _ => rfl) : IxD c a b ρ M (.ref p) M1 (.int (i : Nat)) M2 (.str (l.getD i [])) pos := ix_M hm (Int.natCast_nonneg i) (by rw [Int.toNat_natCast]; exact map_at [] h) hs
end
end Dl

set_option Elab.async false
set_option linter.all false
set_option maxRecDepth 100000
set_option maxHeartbeats 4000000
/-! Dl: AE: what is displayed and no longer changes; lists that no longer change; lists that are only read. -/
namespace Dl
open PySem PySem.Spec L2
section
variable {c : Cfg} {ρ : Env} {M M1 M2 M3 : Mem} {e : Expr} {P : Post} {sts : List Stmt} {kvs : List (DK × D)} {p : Addr} {xs : List D} {nm : Str} {f : Option D → Env} {pos p2 : Pos}
theorem ss_retN (h : PN c e ρ M P.rt) : PSsn c (.Return (some e) pos :: sts) ρ M P := pss_cons' (ps_ret' h)
/-- a new dict, as it is from now on -/
theorem pv_new (h : PN c e ρ M (fun d N => ∃ p, d = .ref p ∧ N = (p, .dK kvs) :: M1)) : PV c e ρ M (.dct kvs) M1 := .mk fun hE => by
  obtain ⟨t, a1, a2⟩ := h.out hE
  refine ⟨tFrz t, fun X hX => pe_frz (a1 X hX), fun F σ H S L Q q => a2 F σ H S L _ fun F1 H1 v x M1' ⟨p, e1, e2⟩ S1 g1 p1 => ?_⟩
  subst e1 e2
  have ep := rep_ref.mp p1
  subst ep
  obtain ⟨_, u, hu, r⟩ := (MAt.here (p := p) (o := .dK kvs) (m := M1)).get S1.ok
  refine ⟨p, u, hu, isD_mut (o := .dK kvs) rfl r, fun od => ?_⟩
  obtain ⟨sf, S2, g2⟩ := S1.freezeL MCut.here (.frz od u)
  exact q _ _ _ _ _ ⟨rfl, rfl⟩ S2 (g1.trans g2) (frz_repD (o := .dK kvs) rfl (r.mono sf) upd_same)
/-- a list that no longer changes -/
theorem ss_frzL (hc : MCut M p (.lst xs) M2) (ha : At ρ nm (.ref p)) (hp : Put ρ nm f) (hn : (ρ.map (·.1)).Nodup) (q : PSsn c sts (f (some (.lst xs))) M2 P) : PSsn c sts ρ M P := .mk fun hE => by
  obtain ⟨i, hi, hw, hk⟩ := hp.ix
  obtain ⟨j, hj, hg⟩ := ha.ix
  have eij : i = j := by
    have h1 := (List.getElem?_eq_some_iff.mp hi).1
    exact (List.getElem?_inj h1 hn).mp (hi.trans hj.symm)
  subst eij
  have hE2 : EnvOk c (f (some (.lst xs))) := ⟨by rw [hw]; exact hE.1, hE.2⟩
  obtain ⟨t, a1, a2⟩ := q.out hE2
  refine ⟨t, a1, fun F σ H S L D f' => ?_⟩
  obtain ⟨u, hu, r, sf, S2, g2⟩ := S.freeze hc
  obtain ⟨v, hv, rv⟩ := hg c.K F σ L
  have ev := rep_ref.mp rv
  subst ev
  have L2 := hk c.K (upd F p u) σ (some (.ref p)) (some (.lst xs)) (L.mono sf) fun d hd => by
    cases hd
    exact ⟨_, rfl, frz_rep (o := .lst xs) rfl (r.mono sf) upd_same⟩
  have es : σ.set i (some (.ref p)) = σ := by
    refine List.ext_getElem? fun m => ?_
    by_cases hm : i = m
    · subst hm
      have hl := (List.getElem?_eq_some_iff.mp hv).1
      rw [List.getElem?_set_self hl, hv]
    · rw [List.getElem?_set_ne hm]
  rw [es] at L2
  exact a2 _ σ H S2 L2 D (f'.go g2)
/-- a piece of a list that is only read -/
theorem pv_slA {lo hi : Option Expr} {l u : Option Int} (he : PV c e ρ M (.arr xs) M1) (hl : PPart c lo ρ M1 l M2) (hu : PPart c hi ρ M2 u M3) : PV c (.Subscript e (.Slice lo hi none p2) pos) ρ M (.lst (cut xs l u)) M3 :=
  pv_sl (r := rSlL c.K) he hl hu (fun X hX => by rw [← hX.K]; exact sl_list) fun F H v S p1 Q q => by
    obtain ⟨p, vs, rfl, hp, r⟩ := rep_arr.mp p1
    refine ⟨p, vs, rfl, sql_up S hp, fun p' hp' => ?_⟩
    obtain ⟨S2, g2⟩ := S.new (o := .lst (cutV vs l u)) hp'
    refine q _ _ _ S2 g2 (rep_lst.mpr ⟨p', _, rfl, upd_same, ?_⟩)
    have e : cutV vs l u = (vs.drop (HT.sIx xs.length 0 l)).take (HT.sIx xs.length xs.length u - HT.sIx xs.length 0 l) := by unfold cutV; rw [r.len]
    have r2 : Reps c.K F (cut xs l u) (cutV vs l u) := by rw [e]; exact (r.drop _).take _
    exact r2.mono g2.ff
end
end Dl

set_option Elab.async false
set_option linter.all false
set_option maxRecDepth 100000
set_option maxHeartbeats 4000000
/-! Dl: AF: own operators of two places; len of what is only read. -/
namespace Dl
open PySem PySem.Spec PyProof.Rows L2
section
variable {X : Cx} {CX : CXT} {C f : Addr} {fd : FuncData} {ps : List Str} {n : Nat} {sp : Sp} {E : XK} {op : Operator} {m : Str}
/-- an object of the class at C and a text -/
def rOwnS (C : Addr) (sp : Sp) (E : XK) : R2 := fun x y H Q => ∃ a dx fs z, x = .ref a ∧ y = .str z ∧ H a = some (.ins C dx fs) ∧ sp [.ref a, .str z] H Q E
theorem op_ownS (hnm : PySem.dunder op.info.2 = m) (F : FnOk X.prog X.w X.K X.mg X.base CX n f fd ps sp) (hs : PySem.W.findIn X.K (.ref C) m = some (some (.ref f))) (hf : PySem.W.isFn X.K (.ref f) = true)
    (hr : Room n X.A) (hb : Binds X.K fd ps []) (hx : Passes CX X E) (B : BinT X.K C op.info.2 "str") : OpR X (binaryOp op) (rOwnS C sp E) := by
  intro pins s σ H x y v u Q I rx ry h
  obtain ⟨a, dx, fs, z, rfl, rfl, ha, q⟩ := h
  cases (show v = Value.ref a from rx)
  obtain ⟨t, rfl⟩ : ∃ t, u = Value.str z t := ry
  obtain ⟨mA, J, _⟩ := ins_get I.hok ha
  obtain ⟨od, J, _⟩ := J.look
  obtain ⟨m', hF⟩ := I.fr
  obtain ⟨fo, h1⟩ := Option.isSome_iff_exists.mp B.h1
  obtain ⟨ro, h2⟩ := Option.isSome_iff_exists.mp B.h2
  refine PySem.W.ksp_binT (T := "str") hF I.ok.mod.kin J rfl B.fst (by rw [hnm]; exact hs) hf B.rfl_ (.inl rfl) h1 h2 B.sub ?_
  refine wpAny_mono (run_below (us := [.ref a, .str z t]) (vs := [.ref a, .str z]) F hr rfl hb hx I (.cons rfl (.cons ⟨t, rfl⟩ .nil)) q) (fun w s' z => ?_) fun _ _ x => x
  obtain ⟨z', H', I', rz, qz⟩ := z
  exact SlX.cmpback rz ⟨z', H', I', rz, qz⟩
theorem op_ownB (hnm : PySem.dunder op.info.2 = m) (F : FnOk X.prog X.w X.K X.mg X.base CX n f fd ps sp) (hs : PySem.W.findIn X.K (.ref C) m = some (some (.ref f))) (hf : PySem.W.isFn X.K (.ref f) = true)
    (hr : Room n X.A) (hb : Binds X.K fd ps []) (hx : Passes CX X E) (B : FstK X.K C) : OpR X (binaryOp op) (rOwn C sp E) := by
  intro pins s σ H x y v u Q I rx ry h
  obtain ⟨a, b, dx, dy, fs, gs, rfl, rfl, ha, hb', q⟩ := h
  cases (show v = Value.ref a from rx)
  cases (show u = Value.ref b from ry)
  obtain ⟨mA, J, _⟩ := ins_get I.hok ha
  obtain ⟨mB, J', _⟩ := ins_get I.hok hb'
  obtain ⟨od, J, _⟩ := J.look
  obtain ⟨od', J', _⟩ := J'.look
  obtain ⟨m', hF⟩ := I.fr
  refine PySem.W.binop_K hF I.ok.mod.kin J J'.type B.fst (by rw [hnm]; exact hs) hf ?_
  refine wpAny_mono (run_below (us := [.ref a, .ref b]) (vs := [.ref a, .ref b]) F hr rfl hb hx I (.cons rfl (.cons rfl .nil)) q) (fun w s' z => ?_) fun _ _ x => x
  obtain ⟨z', H', I', rz, qz⟩ := z
  exact SlX.cmpback rz ⟨z', H', I', rz, qz⟩
end
section
variable {c : Cfg} {ρ : Env} {M M1 : Mem} {pos p2 : Pos} {e : Expr} {d : D} {xs : List D} {t : List Nat} {C : Addr} {fs gs : List (Str × D)} {rel : DRel} {k : Nat} {op : Operator} {m : Str}
theorem o_ownS {nm : String} (G : MtS c.P c.w c.K c.mg c.base C m k [] rel) [B : BinT c.K C nm "str"] (h : rel [.obj C fs, .str t] [] d []) (hn : op.info.2 = nm := by rfl) (hnm : PySem.dunder op.info.2 = m := by decide +kernel) (hk : k ≤ c.k := by dsimp only; decide) : BinD c op (.obj C fs) (.str t) M d M := .mk <| by
  obtain ⟨f, fd, ps, hm, hb, hF⟩ := G.bare
  refine ⟨rOwnS C (spD c.K rel) E0, fun X hX => op_ownS hnm (by rw [hX.P, hX.w, hX.K, hX.mg, hX.base]; exact hF) (by rw [hX.K]; exact hm.at_) (by rw [hX.K]; exact hm.fn) (hX.room.mono hk) (by rw [hX.K]; exact hb) pass0 (by rw [hX.K, hn]; exact B), fun F H v w S r1 r2 Q q => ?_⟩
  obtain ⟨p, dx, ws, rfl, e1, r1'⟩ := rep_obj.mp r1
  have e2 := rep_str.mp r2
  subst e2
  exact ⟨p, dx, ws, T t, rfl, rfl, S.fh _ _ e1, callM_run (.none h) S (reps_cons.mpr ⟨_, _, rfl, r1, reps_cons.mpr ⟨_, _, rfl, r2, reps_nil.mpr rfl⟩⟩) q⟩
theorem o_ownB (G : MtS c.P c.w c.K c.mg c.base C m k [] rel) [B : FstK c.K C] (h : rel [.obj C fs, .obj C gs] [] d []) (hnm : PySem.dunder op.info.2 = m := by decide +kernel) (hk : k ≤ c.k := by dsimp only; decide) : BinD c op (.obj C fs) (.obj C gs) M d M := .mk <| by
  obtain ⟨f, fd, ps, hm, hb, hF⟩ := G.bare
  refine ⟨rOwn C (spD c.K rel) E0, fun X hX => op_ownB hnm (by rw [hX.P, hX.w, hX.K, hX.mg, hX.base]; exact hF) (by rw [hX.K]; exact hm.at_) (by rw [hX.K]; exact hm.fn) (hX.room.mono hk) (by rw [hX.K]; exact hb) pass0 (by rw [hX.K]; exact B), fun F H v w S r1 r2 Q q => ?_⟩
  exact ownM S r1 r2 h q
theorem pv_lenA (h : PV c e ρ M (.arr xs) M1) (hf : BltF c.K c.mg "len") (hg : GlC c "len" := by rfl) (hs : Pl1 e := by intro _; rfl) : PV c (.Call (.Name "len" p2) [e] [] pos) ρ M (.int xs.length) M1 :=
  pv_blt (r := fun xs H Q => ∃ p ys, xs = [.ref p] ∧ (SqL c.K H p ys ∨ SqT c.K H p ys) ∧ Q (.int ys.length) H) (pas1 h hs) hf (fun X hX => by rw [← hX.K]; exact call_len_seq) boot_len (fun F H vs S r Q q => by
    obtain ⟨v, rfl, r1⟩ := reps1 r
    obtain ⟨p, vs, rfl, hp, r2⟩ := rep_arr.mp r1
    refine ⟨p, vs, rfl, .inl (sql_up S hp), ?_⟩
    rw [r2.len]; exact q F H _ S Go.refl (rep_int.mpr rfl)) hg (by decide) (by decide) hs
end
end Dl

set_option Elab.async false
set_option linter.all false
set_option maxRecDepth 100000
set_option maxHeartbeats 4000000
set_option pp.maxSteps 500
namespace Cw
open PySem PySem.Spec L2 Dl
def top (i : Nat) : Stmt := PySem.Challenge.pw_crosswalls_k74_ways_of_closed_floors.main.body.getD i (.Pass ⟨0, 0, 0, 0⟩)
abbrev s_stepped : Stmt := (top 14)
abbrev N_stepped : List Str := ["plan", "name", "kind", "partners", "place"]
abbrev P_stepped : List Str := ["plan", "name", "kind"]
theorem sc_stepped : FnScope N_stepped P_stepped (defScope s_stepped) := ⟨rfl, rfl, rfl, by decide +kernel, rfl, by decide +kernel, by decide +kernel⟩
abbrev s_joined : Stmt := (top 15)
abbrev N_joined : List Str := ["plan", "name", "way", "kind"]
abbrev P_joined : List Str := ["plan", "name", "way"]
theorem sc_joined : FnScope N_joined P_joined (defScope s_joined) := ⟨rfl, rfl, rfl, by decide +kernel, rfl, by decide +kernel, by decide +kernel⟩
abbrev s_is_integer : Stmt := (top 20)
abbrev N_is_integer : List Str := ["value"]
abbrev P_is_integer : List Str := ["value"]
theorem sc_is_integer : FnScope N_is_integer P_is_integer (defScope s_is_integer) := ⟨rfl, rfl, rfl, by decide +kernel, rfl, by decide +kernel, by decide +kernel⟩
abbrev s_is_list : Stmt := (top 21)
abbrev N_is_list : List Str := ["value"]
abbrev P_is_list : List Str := ["value"]
theorem sc_is_list : FnScope N_is_list P_is_list (defScope s_is_list) := ⟨rfl, rfl, rfl, by decide +kernel, rfl, by decide +kernel, by decide +kernel⟩
abbrev s_is_kind : Stmt := (top 22)
abbrev N_is_kind : List Str := ["plan", "value"]
abbrev P_is_kind : List Str := ["plan", "value"]
theorem sc_is_kind : FnScope N_is_kind P_is_kind (defScope s_is_kind) := ⟨rfl, rfl, rfl, by decide +kernel, rfl, by decide +kernel, by decide +kernel⟩
abbrev s_need_kind : Stmt := (top 23)
abbrev N_need_kind : List Str := ["plan", "value"]
abbrev P_need_kind : List Str := ["plan", "value"]
theorem sc_need_kind : FnScope N_need_kind P_need_kind (defScope s_need_kind) := ⟨rfl, rfl, rfl, by decide +kernel, rfl, by decide +kernel, by decide +kernel⟩
abbrev s_need_way : Stmt := (top 24)
abbrev N_need_way : List Str := ["plan", "way", "index", "letter"]
abbrev P_need_way : List Str := ["plan", "way"]
theorem sc_need_way : FnScope N_need_way P_need_way (defScope s_need_way) := ⟨rfl, rfl, rfl, by decide +kernel, rfl, by decide +kernel, by decide +kernel⟩
abbrev s_need_same : Stmt := (top 25)
abbrev N_need_same : List Str := ["plan", "other"]
abbrev P_need_same : List Str := ["plan", "other"]
theorem sc_need_same : FnScope N_need_same P_need_same (defScope s_need_same) := ⟨rfl, rfl, rfl, by decide +kernel, rfl, by decide +kernel, by decide +kernel⟩
abbrev s_are_letters : Stmt := (top 29)
abbrev N_are_letters : List Str := ["value", "letter"]
abbrev P_are_letters : List Str := ["value"]
theorem sc_are_letters : FnScope N_are_letters P_are_letters (defScope s_are_letters) := ⟨rfl, rfl, rfl, by decide +kernel, rfl, by decide +kernel, by decide +kernel⟩
abbrev s_ascending : Stmt := (top 30)
abbrev N_ascending : List Str := ["letters", "letter"]
abbrev P_ascending : List Str := ["letters"]
theorem sc_ascending : FnScope N_ascending P_ascending (defScope s_ascending) := ⟨rfl, rfl, rfl, by decide +kernel, rfl, by decide +kernel, by decide +kernel⟩
abbrev s_checked_pairs : Stmt := (top 31)
abbrev N_checked_pairs : List Str := ["kinds", "crossing", "found", "pair", "a", "b"]
abbrev P_checked_pairs : List Str := ["kinds", "crossing"]
theorem sc_checked_pairs : FnScope N_checked_pairs P_checked_pairs (defScope s_checked_pairs) := ⟨rfl, rfl, rfl, by decide +kernel, rfl, by decide +kernel, by decide +kernel⟩
abbrev s_need_few : Stmt := (top 33)
abbrev N_need_few : List Str := ["kinds"]
abbrev P_need_few : List Str := ["kinds"]
theorem sc_need_few : FnScope N_need_few P_need_few (defScope s_need_few) := ⟨rfl, rfl, rfl, by decide +kernel, rfl, by decide +kernel, by decide +kernel⟩
abbrev s_crossing_table : Stmt := (top 35)
abbrev N_crossing_table : List Str := ["kinds", "pairs", "found", "kind", "other"]
abbrev P_crossing_table : List Str := ["kinds", "pairs"]
theorem sc_crossing_table : FnScope N_crossing_table P_crossing_table (defScope s_crossing_table) := ⟨rfl, rfl, rfl, by decide +kernel, rfl, by decide +kernel, by decide +kernel⟩
abbrev s_is_table_row : Stmt := (top 37)
abbrev N_is_table_row : List Str := ["value", "many", "entry"]
abbrev P_is_table_row : List Str := ["value", "many"]
theorem sc_is_table_row : FnScope N_is_table_row P_is_table_row (defScope s_is_table_row) := ⟨rfl, rfl, rfl, by decide +kernel, rfl, by decide +kernel, by decide +kernel⟩
abbrev s_table_rows : Stmt := (top 38)
abbrev N_table_rows : List Str := ["plan", "tables", "many", "row"]
abbrev P_table_rows : List Str := ["plan", "tables", "many"]
theorem sc_table_rows : FnScope N_table_rows P_table_rows (defScope s_table_rows) := ⟨rfl, rfl, rfl, by decide +kernel, rfl, by decide +kernel, by decide +kernel⟩
abbrev s_need_entries : Stmt := (top 39)
abbrev N_need_entries : List Str := ["plan", "rows", "turning", "kind", "row", "place", "entry"]
abbrev P_need_entries : List Str := ["plan", "rows", "turning"]
theorem sc_need_entries : FnScope N_need_entries P_need_entries (defScope s_need_entries) := ⟨rfl, rfl, rfl, by decide +kernel, rfl, by decide +kernel, by decide +kernel⟩
abbrev s_need_exchanged : Stmt := (top 40)
abbrev N_need_exchanged : List Str := ["plan", "rows", "many", "place", "pair", "one", "other"]
abbrev P_need_exchanged : List Str := ["plan", "rows"]
theorem sc_need_exchanged : FnScope N_need_exchanged P_need_exchanged (defScope s_need_exchanged) := ⟨rfl, rfl, rfl, by decide +kernel, rfl, by decide +kernel, by decide +kernel⟩
abbrev s_found_places : Stmt := (top 41)
abbrev N_found_places : List Str := ["rows", "first", "found", "seen", "at", "row", "place"]
abbrev P_found_places : List Str := ["rows", "first"]
theorem sc_found_places : FnScope N_found_places P_found_places (defScope s_found_places) := ⟨rfl, rfl, rfl, by decide +kernel, rfl, by decide +kernel, by decide +kernel⟩
abbrev s_numbered_rows : Stmt := (top 42)
abbrev N_numbered_rows : List Str := ["rows", "first", "found", "numbers", "at", "place", "row"]
abbrev P_numbered_rows : List Str := ["rows", "first"]
theorem sc_numbered_rows : FnScope N_numbered_rows P_numbered_rows (defScope s_numbered_rows) := ⟨rfl, rfl, rfl, by decide +kernel, rfl, by decide +kernel, by decide +kernel⟩
abbrev s_short_first : Stmt := (top 45)
abbrev N_short_first : List Str := ["names", "most", "name", "found", "length"]
abbrev P_short_first : List Str := ["names"]
theorem sc_short_first : FnScope N_short_first P_short_first (defScope s_short_first) := ⟨rfl, rfl, rfl, by decide +kernel, rfl, by decide +kernel, by decide +kernel⟩
abbrev s_l_begin : Stmt := (top 52)
abbrev N_l_begin : List Str := ["_law_script"]
abbrev P_l_begin : List Str := ["_law_script"]
theorem sc_l_begin : FnScope N_l_begin P_l_begin (defScope s_l_begin) := ⟨rfl, rfl, rfl, by decide +kernel, rfl, by decide +kernel, by decide +kernel⟩
abbrev s_l_draw : Stmt := (top 53)
abbrev N_l_draw : List Str := ["_law_pen", "_law_span", "_law_digit", "_law_at", "_law_cell", "_law_n"]
abbrev P_l_draw : List Str := ["_law_pen", "_law_span"]
theorem sc_l_draw : FnScope N_l_draw P_l_draw (defScope s_l_draw) := ⟨rfl, rfl, rfl, by decide +kernel, rfl, by decide +kernel, by decide +kernel⟩
abbrev s_l_pick : Stmt := (top 54)
abbrev N_l_pick : List Str := ["_law_pen", "_law_some"]
abbrev P_l_pick : List Str := ["_law_pen", "_law_some"]
theorem sc_l_pick : FnScope N_l_pick P_l_pick (defScope s_l_pick) := ⟨rfl, rfl, rfl, by decide +kernel, rfl, by decide +kernel, by decide +kernel⟩
abbrev s_l_scene : Stmt := (top 55)
abbrev N_l_scene : List Str := ["_law_pen", "_law_least", "_law_most", "_law_many", "_law_first", "_law_step", "_law_letters", "_law_kinds", "_law_k", "_law_shape", "_law_pairs", "_law_j", "_law_near_here", "_law_menu", "_law_twin", "_law_pair"]
abbrev P_l_scene : List Str := ["_law_pen", "_law_least", "_law_most"]
theorem sc_l_scene : FnScope N_l_scene P_l_scene (defScope s_l_scene) := ⟨rfl, rfl, rfl, by decide +kernel, rfl, by decide +kernel, by decide +kernel⟩
abbrev s_l_cross : Stmt := (top 56)
abbrev N_l_cross : List Str := ["_law_scene_here", "_law_a", "_law_b"]
abbrev P_l_cross : List Str := ["_law_scene_here", "_law_a", "_law_b"]
theorem sc_l_cross : FnScope N_l_cross P_l_cross (defScope s_l_cross) := ⟨rfl, rfl, rfl, by decide +kernel, rfl, by decide +kernel, by decide +kernel⟩
abbrev s_l_home : Stmt := (top 57)
abbrev N_l_home : List Str := ["_law_scene_here", "_law_kind"]
abbrev P_l_home : List Str := ["_law_scene_here"]
theorem sc_l_home : FnScope N_l_home P_l_home (defScope s_l_home) := ⟨rfl, rfl, rfl, by decide +kernel, rfl, by decide +kernel, by decide +kernel⟩
abbrev s_l_go : Stmt := (top 58)
abbrev N_l_go : List Str := ["_law_scene_here", "_law_spot", "_law_door", "_law_kinds", "_law_found", "_law_amount", "_law_k"]
abbrev P_l_go : List Str := ["_law_scene_here", "_law_spot", "_law_door"]
theorem sc_l_go : FnScope N_l_go P_l_go (defScope s_l_go) := ⟨rfl, rfl, rfl, by decide +kernel, rfl, by decide +kernel, by decide +kernel⟩
abbrev s_l_led : Stmt := (top 59)
abbrev N_l_led : List Str := ["_law_scene_here", "_law_spot", "_law_way", "_law_door"]
abbrev P_l_led : List Str := ["_law_scene_here", "_law_spot", "_law_way"]
theorem sc_l_led : FnScope N_l_led P_l_led (defScope s_l_led) := ⟨rfl, rfl, rfl, by decide +kernel, rfl, by decide +kernel, by decide +kernel⟩
abbrev s_l_near : Stmt := (top 60)
abbrev N_l_near : List Str := ["_law_scene_here", "_law_spot", "_law_k"]
abbrev P_l_near : List Str := ["_law_scene_here", "_law_spot"]
theorem sc_l_near : FnScope N_l_near P_l_near (defScope s_l_near) := ⟨rfl, rfl, rfl, by decide +kernel, rfl, by decide +kernel, by decide +kernel⟩
abbrev s_l_name : Stmt := (top 61)
abbrev N_l_name : List Str := ["_law_scene_here", "_law_way", "_law_spot", "_law_found"]
abbrev P_l_name : List Str := ["_law_scene_here", "_law_way"]
theorem sc_l_name : FnScope N_l_name P_l_name (defScope s_l_name) := ⟨rfl, rfl, rfl, by decide +kernel, rfl, by decide +kernel, by decide +kernel⟩
abbrev s_l_room : Stmt := (top 62)
abbrev N_l_room : List Str := ["_law_scene_here", "_law_way"]
abbrev P_l_room : List Str := ["_law_scene_here", "_law_way"]
theorem sc_l_room : FnScope N_l_room P_l_room (defScope s_l_room) := ⟨rfl, rfl, rfl, by decide +kernel, rfl, by decide +kernel, by decide +kernel⟩
abbrev s_l_fit : Stmt := (top 63)
abbrev N_l_fit : List Str := ["_law_scene_here", "_law_tables", "_law_door", "_law_one", "_law_two", "_law_pairs", "_law_todo", "_law_here", "_law_there", "_law_start", "_law_goal", "_law_other"]
abbrev P_l_fit : List Str := ["_law_scene_here", "_law_tables", "_law_door", "_law_one", "_law_two"]
theorem sc_l_fit : FnScope N_l_fit P_l_fit (defScope s_l_fit) := ⟨rfl, rfl, rfl, by decide +kernel, rfl, by decide +kernel, by decide +kernel⟩
abbrev s_l_doors : Stmt := (top 64)
abbrev N_l_doors : List Str := ["_law_pen", "_law_scene_here", "_law_many", "_law_tables", "_law_door", "_law_row", "_law_turn", "_law_pairs", "_law_place"]
abbrev P_l_doors : List Str := ["_law_pen", "_law_scene_here", "_law_many"]
theorem sc_l_doors : FnScope N_l_doors P_l_doors (defScope s_l_doors) := ⟨rfl, rfl, rfl, by decide +kernel, rfl, by decide +kernel, by decide +kernel⟩
abbrev s_l_numbered : Stmt := (top 65)
abbrev N_l_numbered : List Str := ["_law_scene_here", "_law_tables", "_law_first", "_law_found", "_law_at", "_law_door", "_law_rows", "_law_place"]
abbrev P_l_numbered : List Str := ["_law_scene_here", "_law_tables", "_law_first"]
theorem sc_l_numbered : FnScope N_l_numbered P_l_numbered (defScope s_l_numbered) := ⟨rfl, rfl, rfl, by decide +kernel, rfl, by decide +kernel, by decide +kernel⟩
abbrev s_l_lists : Stmt := (top 66)
abbrev N_l_lists : List Str := ["_law_scene_here", "_law_tables", "_law_door"]
abbrev P_l_lists : List Str := ["_law_scene_here", "_law_tables"]
theorem sc_l_lists : FnScope N_l_lists P_l_lists (defScope s_l_lists) := ⟨rfl, rfl, rfl, by decide +kernel, rfl, by decide +kernel, by decide +kernel⟩
abbrev s_l_first_ways : Stmt := (top 67)
abbrev N_l_first_ways : List Str := ["_law_scene_here", "_law_rows", "_law_found", "_law_at", "_law_k"]
abbrev P_l_first_ways : List Str := ["_law_scene_here", "_law_rows"]
theorem sc_l_first_ways : FnScope N_l_first_ways P_l_first_ways (defScope s_l_first_ways) := ⟨rfl, rfl, rfl, by decide +kernel, rfl, by decide +kernel, by decide +kernel⟩
abbrev s_l_by_length : Stmt := (top 68)
abbrev N_l_by_length : List Str := ["_law_names", "_law_most", "_law_found", "_law_name_here", "_law_length"]
abbrev P_l_by_length : List Str := ["_law_names"]
theorem sc_l_by_length : FnScope N_l_by_length P_l_by_length (defScope s_l_by_length) := ⟨rfl, rfl, rfl, by decide +kernel, rfl, by decide +kernel, by decide +kernel⟩
abbrev s_law : Stmt := (top 69)
abbrev N_law : List Str := ["_law_script", "_law_pen", "_law_turn", "_law_scene_here", "_law_tables", "_law_rows", "_law_first", "_law_due", "_law_place", "_law_k", "_law_back", "_law_floor", "_law_told"]
abbrev P_law : List Str := ["_law_script"]
theorem sc_law : FnScope N_law P_law (defScope s_law) := ⟨rfl, rfl, rfl, by decide +kernel, rfl, by decide +kernel, by decide +kernel⟩
abbrev s_Room_add : Stmt := (inClass (top 27) 4)
abbrev N_Room_add : List Str := ["self", "way"]
abbrev P_Room_add : List Str := ["self", "way"]
theorem sc_Room_add : FnScope N_Room_add P_Room_add (defScope s_Room_add) := ⟨rfl, rfl, rfl, by decide +kernel, rfl, by decide +kernel, by decide +kernel⟩
abbrev s_Room_init : Stmt := (inClass (top 27) 0)
abbrev N_Room_init : List Str := ["self", "plan", "way"]
abbrev P_Room_init : List Str := ["self", "plan", "way"]
theorem sc_Room_init : FnScope N_Room_init P_Room_init (defScope s_Room_init) := ⟨rfl, rfl, rfl, by decide +kernel, rfl, by decide +kernel, by decide +kernel⟩
abbrev s_Plan_eq : Stmt := (inClass (top 34) 2)
abbrev N_Plan_eq : List Str := ["self", "other"]
abbrev P_Plan_eq : List Str := ["self", "other"]
theorem sc_Plan_eq : FnScope N_Plan_eq P_Plan_eq (defScope s_Plan_eq) := ⟨rfl, rfl, rfl, by decide +kernel, rfl, by decide +kernel, by decide +kernel⟩
abbrev s_Plan_init : Stmt := (inClass (top 34) 0)
abbrev N_Plan_init : List Str := ["self", "kinds", "crossing"]
abbrev P_Plan_init : List Str := ["self", "kinds", "crossing"]
theorem sc_Plan_init : FnScope N_Plan_init P_Plan_init (defScope s_Plan_init) := ⟨rfl, rfl, rfl, by decide +kernel, rfl, by decide +kernel, by decide +kernel⟩
abbrev s_Closed_len : Stmt := (inClass (top 44) 2)
abbrev N_Closed_len : List Str := ["self"]
abbrev P_Closed_len : List Str := ["self"]
theorem sc_Closed_len : FnScope N_Closed_len P_Closed_len (defScope s_Closed_len) := ⟨rfl, rfl, rfl, by decide +kernel, rfl, by decide +kernel, by decide +kernel⟩
abbrev s_Closed_at : Stmt := (inClass (top 44) 4)
abbrev N_Closed_at : List Str := ["self", "room"]
abbrev P_Closed_at : List Str := ["self", "room"]
theorem sc_Closed_at : FnScope N_Closed_at P_Closed_at (defScope s_Closed_at) := ⟨rfl, rfl, rfl, by decide +kernel, rfl, by decide +kernel, by decide +kernel⟩
abbrev s_Closed_walked : Stmt := (inClass (top 44) 7)
abbrev N_Closed_walked : List Str := ["self", "place", "way", "found", "kind"]
abbrev P_Closed_walked : List Str := ["self", "place", "way"]
theorem sc_Closed_walked : FnScope N_Closed_walked P_Closed_walked (defScope s_Closed_walked) := ⟨rfl, rfl, rfl, by decide +kernel, rfl, by decide +kernel, by decide +kernel⟩
abbrev s_Closed_first_ways : Stmt := (inClass (top 44) 14)
abbrev N_Closed_first_ways : List Str := ["self", "found", "place", "kind", "row"]
abbrev P_Closed_first_ways : List Str := ["self"]
theorem sc_Closed_first_ways : FnScope N_Closed_first_ways P_Closed_first_ways (defScope s_Closed_first_ways) := ⟨rfl, rfl, rfl, by decide +kernel, rfl, by decide +kernel, by decide +kernel⟩
abbrev s_Closed_ways : Stmt := (inClass (top 44) 15)
abbrev N_Closed_ways : List Str := ["self", "first", "names", "place", "kind", "row", "back", "letter", "name"]
abbrev P_Closed_ways : List Str := ["self"]
theorem sc_Closed_ways : FnScope N_Closed_ways P_Closed_ways (defScope s_Closed_ways) := ⟨rfl, rfl, rfl, by decide +kernel, rfl, by decide +kernel, by decide +kernel⟩
abbrev s_Closed_init : Stmt := (inClass (top 44) 0)
abbrev N_Closed_init : List Str := ["self", "plan", "tables", "rows"]
abbrev P_Closed_init : List Str := ["self", "plan", "tables"]
theorem sc_Closed_init : FnScope N_Closed_init P_Closed_init (defScope s_Closed_init) := ⟨rfl, rfl, rfl, by decide +kernel, rfl, by decide +kernel, by decide +kernel⟩
def fa : List He.Fa := [.glo "stepped",
  .glo "joined",
  .glo "is_integer",
  .glo "is_list",
  .glo "is_kind",
  .glo "need_kind",
  .glo "need_way",
  .glo "need_same",
  .glo "are_letters",
  .glo "ascending",
  .glo "checked_pairs",
  .glo "need_few",
  .glo "crossing_table",
  .glo "is_table_row",
  .glo "table_rows",
  .glo "need_entries",
  .glo "need_exchanged",
  .glo "found_places",
  .glo "numbered_rows",
  .glo "short_first",
  .glo "_law_begin",
  .glo "_law_draw",
  .glo "_law_pick",
  .glo "_law_scene",
  .glo "_law_cross",
  .glo "_law_home",
  .glo "_law_go",
  .glo "_law_led",
  .glo "_law_near",
  .glo "_law_name",
  .glo "_law_room",
  .glo "_law_fit",
  .glo "_law_doors",
  .glo "_law_numbered",
  .glo "_law_lists",
  .glo "_law_first_ways",
  .glo "_law_by_length",
  .glo "law",
  .int "MOST_KINDS" 8,
  .int "MOST_LETTERS" 2000,
  .str "LETTERS" "abcdefghijklmnopqrstuvwxyz",
  .free "isinstance",
  .free "len",
  .free "int",
  .free "bool",
  .free "str",
  .free "list",
  .free "tuple",
  .free "set",
  .free "all",
  .free "zip",
  .free "enumerate",
  .free "range",
  .free "sorted",
  .free "max",
  .free "min",
  .free "abs",
  .free "any",
  .free "dict",
  .glo "Room",
  .cls "Room",
  .noat "Room" "plan",
  .noat "Room" "name",
  .meth "Room" "__add__",
  .mkr "Room",
  .glo "Plan",
  .cls "Plan",
  .noat "Plan" "kinds",
  .noat "Plan" "pairs",
  .noat "Plan" "own_crossing",
  .meth "Plan" "__eq__",
  .mkr "Plan",
  .glo "Closed",
  .cls "Closed",
  .noat "Closed" "plan",
  .noat "Closed" "tables",
  .noat "Closed" "own_places",
  .meth "Closed" "__len__",
  .meth "Closed" "at",
  .meth "Closed" "walked",
  .meth "Closed" "first_ways",
  .meth "Closed" "ways",
  .mkr "Closed"]
def d_stepped : He.DefD := ⟨("stepped", none), "stepped", "stepped", L2.defArgs s_stepped, L2.defBody s_stepped, L2.defScope s_stepped, [], []⟩
def d_joined : He.DefD := ⟨("joined", none), "joined", "joined", L2.defArgs s_joined, L2.defBody s_joined, L2.defScope s_joined, [], []⟩
def d_is_integer : He.DefD := ⟨("is_integer", none), "is_integer", "is_integer", L2.defArgs s_is_integer, L2.defBody s_is_integer, L2.defScope s_is_integer, [], []⟩
def d_is_list : He.DefD := ⟨("is_list", none), "is_list", "is_list", L2.defArgs s_is_list, L2.defBody s_is_list, L2.defScope s_is_list, [], []⟩
def d_is_kind : He.DefD := ⟨("is_kind", none), "is_kind", "is_kind", L2.defArgs s_is_kind, L2.defBody s_is_kind, L2.defScope s_is_kind, [], []⟩
def d_need_kind : He.DefD := ⟨("need_kind", none), "need_kind", "need_kind", L2.defArgs s_need_kind, L2.defBody s_need_kind, L2.defScope s_need_kind, [], []⟩
def d_need_way : He.DefD := ⟨("need_way", none), "need_way", "need_way", L2.defArgs s_need_way, L2.defBody s_need_way, L2.defScope s_need_way, [], []⟩
def d_need_same : He.DefD := ⟨("need_same", none), "need_same", "need_same", L2.defArgs s_need_same, L2.defBody s_need_same, L2.defScope s_need_same, [], []⟩
def d_are_letters : He.DefD := ⟨("are_letters", none), "are_letters", "are_letters", L2.defArgs s_are_letters, L2.defBody s_are_letters, L2.defScope s_are_letters, [], []⟩
def d_ascending : He.DefD := ⟨("ascending", none), "ascending", "ascending", L2.defArgs s_ascending, L2.defBody s_ascending, L2.defScope s_ascending, [], []⟩
def d_checked_pairs : He.DefD := ⟨("checked_pairs", none), "checked_pairs", "checked_pairs", L2.defArgs s_checked_pairs, L2.defBody s_checked_pairs, L2.defScope s_checked_pairs, [], []⟩
def d_need_few : He.DefD := ⟨("need_few", none), "need_few", "need_few", L2.defArgs s_need_few, L2.defBody s_need_few, L2.defScope s_need_few, [], []⟩
def d_crossing_table : He.DefD := ⟨("crossing_table", none), "crossing_table", "crossing_table", L2.defArgs s_crossing_table, L2.defBody s_crossing_table, L2.defScope s_crossing_table, [], []⟩
def d_is_table_row : He.DefD := ⟨("is_table_row", none), "is_table_row", "is_table_row", L2.defArgs s_is_table_row, L2.defBody s_is_table_row, L2.defScope s_is_table_row, [], []⟩
def d_table_rows : He.DefD := ⟨("table_rows", none), "table_rows", "table_rows", L2.defArgs s_table_rows, L2.defBody s_table_rows, L2.defScope s_table_rows, [], []⟩
def d_need_entries : He.DefD := ⟨("need_entries", none), "need_entries", "need_entries", L2.defArgs s_need_entries, L2.defBody s_need_entries, L2.defScope s_need_entries, [], []⟩
def d_need_exchanged : He.DefD := ⟨("need_exchanged", none), "need_exchanged", "need_exchanged", L2.defArgs s_need_exchanged, L2.defBody s_need_exchanged, L2.defScope s_need_exchanged, [], []⟩
def d_found_places : He.DefD := ⟨("found_places", none), "found_places", "found_places", L2.defArgs s_found_places, L2.defBody s_found_places, L2.defScope s_found_places, [], []⟩
def d_numbered_rows : He.DefD := ⟨("numbered_rows", none), "numbered_rows", "numbered_rows", L2.defArgs s_numbered_rows, L2.defBody s_numbered_rows, L2.defScope s_numbered_rows, [], []⟩
def d_short_first : He.DefD := ⟨("short_first", none), "short_first", "short_first", L2.defArgs s_short_first, L2.defBody s_short_first, L2.defScope s_short_first, [], []⟩
def d_l_begin : He.DefD := ⟨("_law_begin", none), "_law_begin", "_law_begin", L2.defArgs s_l_begin, L2.defBody s_l_begin, L2.defScope s_l_begin, [], []⟩
def d_l_draw : He.DefD := ⟨("_law_draw", none), "_law_draw", "_law_draw", L2.defArgs s_l_draw, L2.defBody s_l_draw, L2.defScope s_l_draw, [], []⟩
def d_l_pick : He.DefD := ⟨("_law_pick", none), "_law_pick", "_law_pick", L2.defArgs s_l_pick, L2.defBody s_l_pick, L2.defScope s_l_pick, [], []⟩
def d_l_scene : He.DefD := ⟨("_law_scene", none), "_law_scene", "_law_scene", L2.defArgs s_l_scene, L2.defBody s_l_scene, L2.defScope s_l_scene, [], []⟩
def d_l_cross : He.DefD := ⟨("_law_cross", none), "_law_cross", "_law_cross", L2.defArgs s_l_cross, L2.defBody s_l_cross, L2.defScope s_l_cross, [], []⟩
def d_l_home : He.DefD := ⟨("_law_home", none), "_law_home", "_law_home", L2.defArgs s_l_home, L2.defBody s_l_home, L2.defScope s_l_home, [], []⟩
def d_l_go : He.DefD := ⟨("_law_go", none), "_law_go", "_law_go", L2.defArgs s_l_go, L2.defBody s_l_go, L2.defScope s_l_go, [], []⟩
def d_l_led : He.DefD := ⟨("_law_led", none), "_law_led", "_law_led", L2.defArgs s_l_led, L2.defBody s_l_led, L2.defScope s_l_led, [], []⟩
def d_l_near : He.DefD := ⟨("_law_near", none), "_law_near", "_law_near", L2.defArgs s_l_near, L2.defBody s_l_near, L2.defScope s_l_near, [], []⟩
def d_l_name : He.DefD := ⟨("_law_name", none), "_law_name", "_law_name", L2.defArgs s_l_name, L2.defBody s_l_name, L2.defScope s_l_name, [], []⟩
def d_l_room : He.DefD := ⟨("_law_room", none), "_law_room", "_law_room", L2.defArgs s_l_room, L2.defBody s_l_room, L2.defScope s_l_room, [], []⟩
def d_l_fit : He.DefD := ⟨("_law_fit", none), "_law_fit", "_law_fit", L2.defArgs s_l_fit, L2.defBody s_l_fit, L2.defScope s_l_fit, [], []⟩
def d_l_doors : He.DefD := ⟨("_law_doors", none), "_law_doors", "_law_doors", L2.defArgs s_l_doors, L2.defBody s_l_doors, L2.defScope s_l_doors, [], []⟩
def d_l_numbered : He.DefD := ⟨("_law_numbered", none), "_law_numbered", "_law_numbered", L2.defArgs s_l_numbered, L2.defBody s_l_numbered, L2.defScope s_l_numbered, [], []⟩
def d_l_lists : He.DefD := ⟨("_law_lists", none), "_law_lists", "_law_lists", L2.defArgs s_l_lists, L2.defBody s_l_lists, L2.defScope s_l_lists, [], []⟩
def d_l_first_ways : He.DefD := ⟨("_law_first_ways", none), "_law_first_ways", "_law_first_ways", L2.defArgs s_l_first_ways, L2.defBody s_l_first_ways, L2.defScope s_l_first_ways, [], []⟩
def d_l_by_length : He.DefD := ⟨("_law_by_length", none), "_law_by_length", "_law_by_length", L2.defArgs s_l_by_length, L2.defBody s_l_by_length, L2.defScope s_l_by_length, [], []⟩
def d_law : He.DefD := ⟨("law", none), "law", "law", L2.defArgs s_law, L2.defBody s_law, L2.defScope s_law, [], []⟩
def d_Room_add : He.DefD := ⟨("Room", some "__add__"), "__add__", "Room.__add__", L2.defArgs s_Room_add, L2.defBody s_Room_add, L2.defScope s_Room_add, [], []⟩
def d_Room_init : He.DefD := ⟨("Room", some "__init__"), "__init__", "Room.__init__", L2.defArgs s_Room_init, L2.defBody s_Room_init, L2.defScope s_Room_init, [.str ""], []⟩
def d_Plan_eq : He.DefD := ⟨("Plan", some "__eq__"), "__eq__", "Plan.__eq__", L2.defArgs s_Plan_eq, L2.defBody s_Plan_eq, L2.defScope s_Plan_eq, [], []⟩
def d_Plan_init : He.DefD := ⟨("Plan", some "__init__"), "__init__", "Plan.__init__", L2.defArgs s_Plan_init, L2.defBody s_Plan_init, L2.defScope s_Plan_init, [.adr (He.dflAt ("Plan", some "__init__") 0)], []⟩
def d_Closed_len : He.DefD := ⟨("Closed", some "__len__"), "__len__", "Closed.__len__", L2.defArgs s_Closed_len, L2.defBody s_Closed_len, L2.defScope s_Closed_len, [], []⟩
def d_Closed_at : He.DefD := ⟨("Closed", some "at"), "at", "Closed.at", L2.defArgs s_Closed_at, L2.defBody s_Closed_at, L2.defScope s_Closed_at, [], []⟩
def d_Closed_walked : He.DefD := ⟨("Closed", some "walked"), "walked", "Closed.walked", L2.defArgs s_Closed_walked, L2.defBody s_Closed_walked, L2.defScope s_Closed_walked, [], []⟩
def d_Closed_first_ways : He.DefD := ⟨("Closed", some "first_ways"), "first_ways", "Closed.first_ways", L2.defArgs s_Closed_first_ways, L2.defBody s_Closed_first_ways, L2.defScope s_Closed_first_ways, [], []⟩
def d_Closed_ways : He.DefD := ⟨("Closed", some "ways"), "ways", "Closed.ways", L2.defArgs s_Closed_ways, L2.defBody s_Closed_ways, L2.defScope s_Closed_ways, [], []⟩
def d_Closed_init : He.DefD := ⟨("Closed", some "__init__"), "__init__", "Closed.__init__", L2.defArgs s_Closed_init, L2.defBody s_Closed_init, L2.defScope s_Closed_init, [], []⟩
def fn : List He.DefD := [d_stepped, d_joined, d_is_integer, d_is_list, d_is_kind, d_need_kind, d_need_way, d_need_same, d_are_letters, d_ascending, d_checked_pairs, d_need_few, d_crossing_table, d_is_table_row, d_table_rows, d_need_entries, d_need_exchanged, d_found_places, d_numbered_rows, d_short_first, d_l_begin, d_l_draw, d_l_pick, d_l_scene, d_l_cross, d_l_home, d_l_go, d_l_led, d_l_near, d_l_name, d_l_room, d_l_fit, d_l_doors, d_l_numbered, d_l_lists, d_l_first_ways, d_l_by_length, d_law, d_Room_add, d_Room_init, d_Plan_eq, d_Plan_init, d_Closed_len, d_Closed_at, d_Closed_walked, d_Closed_first_ways, d_Closed_ways, d_Closed_init]
def fx : List Fx := [.isi "Plan", .cls "Plan", .ne "Plan", .bin "Room" "add" "str"]
/-- what the top has left, by names -/
class Txt (K : PySem.W.Frag) (mg : outParam (Str → Option Value)) : Prop where
  says : He.SaysD fa fn K
  more : (fx.all fun f => f.ok K) = true
  glob : ∃ h : Heap, K.In h ∧ h.Ns mainGlobals mg
section
variable {P : Program} {w : World} {K : PySem.W.Frag} {mg : Str → Option Value} {base : Heap}
theorem Txt.gl (T : Txt K mg) {x : Str} (i : Nat) (h : fa[i]? = some (.glo x) := by rfl) : mg x = some (.ref (He.ga K x)) := by
  obtain ⟨h0, a, b⟩ := T.glob
  exact He.glo_ok a b (T.says.fact i h)
theorem Txt.fr (T : Txt K mg) {x : Str} (i : Nat) (h : fa[i]? = some (.free x) := by rfl) : BltF K mg x := by
  obtain ⟨h0, a, b⟩ := T.glob
  exact ⟨He.free_ok a b (T.says.fact i h)⟩
theorem Txt.int_ (T : Txt K mg) {x : Str} {n : Int} (i : Nat) (h : fa[i]? = some (.int x n) := by rfl) : ∃ t, mg x = some (.int n t) := by
  obtain ⟨h0, a, b⟩ := T.glob
  exact He.int_ok a b (T.says.fact i h)
theorem Txt.str_ (T : Txt K mg) {x z : Str} (i : Nat) (h : fa[i]? = some (.str x z) := by rfl) : ∃ t, mg x = some (.str z t) := by
  obtain ⟨h0, a, b⟩ := T.glob
  exact He.str_ok a b (T.says.fact i h)
theorem Txt.cl (T : Txt K mg) {x : Str} (i : Nat) (h : fa[i]? = some (.cls x) := by rfl) : Cls K (He.ga K x) := He.cls_ok (T.says.fact i h)
theorem Txt.fl (T : Txt K mg) {x f : Str} (i j : Nat) (h : fa[i]? = some (.cls x) := by rfl) (h2 : fa[j]? = some (.noat x f) := by rfl) : FlK K mg (He.ga K x) f := ⟨He.cls_ok (T.says.fact i h), He.noat_ok (T.says.fact j h2)⟩
theorem Txt.mt (T : Txt K mg) {x m : Str} (i : Nat) (h : fa[i]? = some (.meth x m) := by rfl) : Meth K (He.ga K x) m (He.ma K (He.ga K x) m) := He.meth_ok (T.says.fact i h)
theorem Txt.mk_ (T : Txt K mg) {x : Str} (i : Nat) (h : fa[i]? = some (.mkr x) := by rfl) : Mk K (He.ga K x) (He.ma K (He.ga K x) "__init__") := He.mkr_ok (T.says.fact i h)
theorem Txt.fx_ (T : Txt K mg) {f : Fx} (i : Nat) (h : fx[i]? = some f := by rfl) : f.ok K = true := List.all_eq_true.mp T.more f (List.mem_of_getElem? h)
theorem Txt.df (T : Txt K mg) (i : Nat) {d : He.DefD} (h : fn[i]? = some d := by rfl) : ∃ fd, FunD K d.name d.qual d.params d.body d.scope (d.dvs K) (d.kws K) (He.fAd K d.at_) fd := T.says.def_ i h
theorem g_MOST_KINDS [T : Txt K mg] : ∃ t, mg "MOST_KINDS" = some (.int 8 t) := T.int_ 38
theorem g_MOST_LETTERS [T : Txt K mg] : ∃ t, mg "MOST_LETTERS" = some (.int 2000 t) := T.int_ 39
theorem g_LETTERS [T : Txt K mg] : ∃ t, mg "LETTERS" = some (.str "abcdefghijklmnopqrstuvwxyz" t) := T.str_ 40
instance fr_41 [T : Txt K mg] : BltF K mg "isinstance" := T.fr 41
instance fr_42 [T : Txt K mg] : BltF K mg "len" := T.fr 42
instance fr_43 [T : Txt K mg] : BltF K mg "int" := T.fr 43
instance fr_44 [T : Txt K mg] : BltF K mg "bool" := T.fr 44
instance fr_45 [T : Txt K mg] : BltF K mg "str" := T.fr 45
instance fr_46 [T : Txt K mg] : BltF K mg "list" := T.fr 46
instance fr_47 [T : Txt K mg] : BltF K mg "tuple" := T.fr 47
instance fr_48 [T : Txt K mg] : BltF K mg "set" := T.fr 48
instance fr_49 [T : Txt K mg] : BltF K mg "all" := T.fr 49
instance fr_50 [T : Txt K mg] : BltF K mg "zip" := T.fr 50
instance fr_51 [T : Txt K mg] : BltF K mg "enumerate" := T.fr 51
instance fr_52 [T : Txt K mg] : BltF K mg "range" := T.fr 52
instance fr_53 [T : Txt K mg] : BltF K mg "sorted" := T.fr 53
instance fr_54 [T : Txt K mg] : BltF K mg "max" := T.fr 54
instance fr_55 [T : Txt K mg] : BltF K mg "min" := T.fr 55
instance fr_56 [T : Txt K mg] : BltF K mg "abs" := T.fr 56
instance fr_57 [T : Txt K mg] : BltF K mg "any" := T.fr 57
instance fr_58 [T : Txt K mg] : BltF K mg "dict" := T.fr 58
instance fl_61 [T : Txt K mg] : FlK K mg (He.ga K "Room") "plan" := T.fl 60 61
instance fl_62 [T : Txt K mg] : FlK K mg (He.ga K "Room") "name" := T.fl 60 62
instance fl_67 [T : Txt K mg] : FlK K mg (He.ga K "Plan") "kinds" := T.fl 66 67
instance fl_68 [T : Txt K mg] : FlK K mg (He.ga K "Plan") "pairs" := T.fl 66 68
instance fl_69 [T : Txt K mg] : FlK K mg (He.ga K "Plan") "own_crossing" := T.fl 66 69
instance fl_74 [T : Txt K mg] : FlK K mg (He.ga K "Closed") "plan" := T.fl 73 74
instance fl_75 [T : Txt K mg] : FlK K mg (He.ga K "Closed") "tables" := T.fl 73 75
instance fl_76 [T : Txt K mg] : FlK K mg (He.ga K "Closed") "own_places" := T.fl 73 76
theorem pv_MOST_KINDS {c : Cfg} {ρ : Dl.Env} {M : Mem} {pos : Pos} (T : Txt c.K c.mg) (hg : GlC c "MOST_KINDS" := by rfl) : PV c (.Name "MOST_KINDS" pos) ρ M (.int 8) M := pv_gint (g_MOST_KINDS (K := c.K)) hg (by decide)
theorem pv_MOST_LETTERS {c : Cfg} {ρ : Dl.Env} {M : Mem} {pos : Pos} (T : Txt c.K c.mg) (hg : GlC c "MOST_LETTERS" := by rfl) : PV c (.Name "MOST_LETTERS" pos) ρ M (.int 2000) M := pv_gint (g_MOST_LETTERS (K := c.K)) hg (by decide)
theorem pv_LETTERS {c : Cfg} {ρ : Dl.Env} {M : Mem} {pos : Pos} (T : Txt c.K c.mg) (hg : GlC c "LETTERS" := by rfl) : PV c (.Name "LETTERS" pos) ρ M (.str ([97, 98, 99, 100, 101, 102, 103, 104, 105, 106, 107, 108, 109, 110, 111, 112, 113, 114, 115, 116, 117, 118, 119, 120, 121, 122] : List Nat)) M := pv_gstr (g_LETTERS (K := c.K)) hg (by decide)
theorem gl_Room [T : Txt K mg] : mg "Room" = some (.ref (He.ga K "Room")) := T.gl 59
theorem gl_Plan [T : Txt K mg] : mg "Plan" = some (.ref (He.ga K "Plan")) := T.gl 65
theorem gl_Closed [T : Txt K mg] : mg "Closed" = some (.ref (He.ga K "Closed")) := T.gl 72
theorem pv_Room {c : Cfg} {ρ : Dl.Env} {M : Mem} {pos : Pos} (T : Txt c.K c.mg) (hg : GlC c "Room" := by rfl) : PV c (.Name "Room" pos) ρ M (.ref (He.ga c.K "Room")) M := pv_cls (gl_Room (K := c.K)) hg (by decide)
theorem pv_Plan {c : Cfg} {ρ : Dl.Env} {M : Mem} {pos : Pos} (T : Txt c.K c.mg) (hg : GlC c "Plan" := by rfl) : PV c (.Name "Plan" pos) ρ M (.ref (He.ga c.K "Plan")) M := pv_cls (gl_Plan (K := c.K)) hg (by decide)
theorem pv_Closed {c : Cfg} {ρ : Dl.Env} {M : Mem} {pos : Pos} (T : Txt c.K c.mg) (hg : GlC c "Closed" := by rfl) : PV c (.Name "Closed" pos) ρ M (.ref (He.ga c.K "Closed")) M := pv_cls (gl_Closed (K := c.K)) hg (by decide)
instance fx_0 [T : Txt K mg] : IsiK K (He.ga K "Plan") := fx_isi (T.fx_ 0)
instance fx_1 [T : Txt K mg] : ClsK K (He.ga K "Plan") := fx_cls (T.fx_ 1)
instance fx_2 [T : Txt K mg] : NeK K (He.ga K "Plan") := fx_ne (T.fx_ 2)
instance fx_3 [T : Txt K mg] : BinT K (He.ga K "Room") "add" "str" := fx_bin (T.fx_ 3)
theorem mk_stepped [T : Txt K mg] {rel : DRel} {k : Nat} (len : ∀ ds M d M', rel ds M d M' → ds.length = 3) (h : ∀ ds M d M', rel ds M d M' → PSsn ⟨P, w, K, mg, base, N_stepped, defScope s_stepped, k, (fun _ => true), noW⟩ (defBody s_stepped) (start0 N_stepped ds) M (bodyP d M')) : FnS P w K mg base "stepped" (k + 1) [] rel := fns_mk (T.df 0) (T.gl 0) sc_stepped (by decide) (fun _ _ _ _ _ _ us hl => match us, hl with | [_, _, _], _ => rfl) len h
theorem mk_joined [T : Txt K mg] {rel : DRel} {k : Nat} (len : ∀ ds M d M', rel ds M d M' → ds.length = 3) (h : ∀ ds M d M', rel ds M d M' → PSsn ⟨P, w, K, mg, base, N_joined, defScope s_joined, k, (fun _ => true), noW⟩ (defBody s_joined) (start0 N_joined ds) M (bodyP d M')) : FnS P w K mg base "joined" (k + 1) [] rel := fns_mk (T.df 1) (T.gl 1) sc_joined (by decide) (fun _ _ _ _ _ _ us hl => match us, hl with | [_, _, _], _ => rfl) len h
theorem mk_is_integer [T : Txt K mg] {rel : DRel} {k : Nat} (len : ∀ ds M d M', rel ds M d M' → ds.length = 1) (h : ∀ ds M d M', rel ds M d M' → PSsn ⟨P, w, K, mg, base, N_is_integer, defScope s_is_integer, k, (fun _ => true), noW⟩ (defBody s_is_integer) (start0 N_is_integer ds) M (bodyP d M')) : FnS P w K mg base "is_integer" (k + 1) [] rel := fns_mk (T.df 2) (T.gl 2) sc_is_integer (by decide) (fun _ _ _ _ _ _ us hl => match us, hl with | [_], _ => rfl) len h
theorem mk_is_list [T : Txt K mg] {rel : DRel} {k : Nat} (len : ∀ ds M d M', rel ds M d M' → ds.length = 1) (h : ∀ ds M d M', rel ds M d M' → PSsn ⟨P, w, K, mg, base, N_is_list, defScope s_is_list, k, (fun _ => true), noW⟩ (defBody s_is_list) (start0 N_is_list ds) M (bodyP d M')) : FnS P w K mg base "is_list" (k + 1) [] rel := fns_mk (T.df 3) (T.gl 3) sc_is_list (by decide) (fun _ _ _ _ _ _ us hl => match us, hl with | [_], _ => rfl) len h
theorem mk_is_kind [T : Txt K mg] {rel : DRel} {k : Nat} (len : ∀ ds M d M', rel ds M d M' → ds.length = 2) (h : ∀ ds M d M', rel ds M d M' → PSsn ⟨P, w, K, mg, base, N_is_kind, defScope s_is_kind, k, (fun _ => true), noW⟩ (defBody s_is_kind) (start0 N_is_kind ds) M (bodyP d M')) : FnS P w K mg base "is_kind" (k + 1) [] rel := fns_mk (T.df 4) (T.gl 4) sc_is_kind (by decide) (fun _ _ _ _ _ _ us hl => match us, hl with | [_, _], _ => rfl) len h
theorem mk_need_kind [T : Txt K mg] {rel : DRel} {k : Nat} (len : ∀ ds M d M', rel ds M d M' → ds.length = 2) (h : ∀ ds M d M', rel ds M d M' → PSsn ⟨P, w, K, mg, base, N_need_kind, defScope s_need_kind, k, (fun _ => true), noW⟩ (defBody s_need_kind) (start0 N_need_kind ds) M (bodyP d M')) : FnS P w K mg base "need_kind" (k + 1) [] rel := fns_mk (T.df 5) (T.gl 5) sc_need_kind (by decide) (fun _ _ _ _ _ _ us hl => match us, hl with | [_, _], _ => rfl) len h
theorem mk_need_way [T : Txt K mg] {rel : DRel} {k : Nat} (len : ∀ ds M d M', rel ds M d M' → ds.length = 2) (h : ∀ ds M d M', rel ds M d M' → PSsn ⟨P, w, K, mg, base, N_need_way, defScope s_need_way, k, (fun _ => true), noW⟩ (defBody s_need_way) (start0 N_need_way ds) M (bodyP d M')) : FnS P w K mg base "need_way" (k + 1) [] rel := fns_mk (T.df 6) (T.gl 6) sc_need_way (by decide) (fun _ _ _ _ _ _ us hl => match us, hl with | [_, _], _ => rfl) len h
theorem mk_need_same [T : Txt K mg] {rel : DRel} {k : Nat} (len : ∀ ds M d M', rel ds M d M' → ds.length = 2) (h : ∀ ds M d M', rel ds M d M' → PSsn ⟨P, w, K, mg, base, N_need_same, defScope s_need_same, k, (fun _ => true), noW⟩ (defBody s_need_same) (start0 N_need_same ds) M (bodyP d M')) : FnS P w K mg base "need_same" (k + 1) [] rel := fns_mk (T.df 7) (T.gl 7) sc_need_same (by decide) (fun _ _ _ _ _ _ us hl => match us, hl with | [_, _], _ => rfl) len h
theorem mk_are_letters [T : Txt K mg] {rel : DRel} {k : Nat} (len : ∀ ds M d M', rel ds M d M' → ds.length = 1) (h : ∀ ds M d M', rel ds M d M' → PSsn ⟨P, w, K, mg, base, N_are_letters, defScope s_are_letters, k, (fun _ => true), noW⟩ (defBody s_are_letters) (start0 N_are_letters ds) M (bodyP d M')) : FnS P w K mg base "are_letters" (k + 1) [] rel := fns_mk (T.df 8) (T.gl 8) sc_are_letters (by decide) (fun _ _ _ _ _ _ us hl => match us, hl with | [_], _ => rfl) len h
theorem mk_ascending [T : Txt K mg] {rel : DRel} {k : Nat} (len : ∀ ds M d M', rel ds M d M' → ds.length = 1) (h : ∀ ds M d M', rel ds M d M' → PSsn ⟨P, w, K, mg, base, N_ascending, defScope s_ascending, k, (fun _ => true), noW⟩ (defBody s_ascending) (start0 N_ascending ds) M (bodyP d M')) : FnS P w K mg base "ascending" (k + 1) [] rel := fns_mk (T.df 9) (T.gl 9) sc_ascending (by decide) (fun _ _ _ _ _ _ us hl => match us, hl with | [_], _ => rfl) len h
theorem mk_checked_pairs [T : Txt K mg] {rel : DRel} {k : Nat} (len : ∀ ds M d M', rel ds M d M' → ds.length = 2) (h : ∀ ds M d M', rel ds M d M' → PSsn ⟨P, w, K, mg, base, N_checked_pairs, defScope s_checked_pairs, k, (fun _ => true), noW⟩ (defBody s_checked_pairs) (start0 N_checked_pairs ds) M (bodyP d M')) : FnS P w K mg base "checked_pairs" (k + 1) [] rel := fns_mk (T.df 10) (T.gl 10) sc_checked_pairs (by decide) (fun _ _ _ _ _ _ us hl => match us, hl with | [_, _], _ => rfl) len h
theorem mk_need_few [T : Txt K mg] {rel : DRel} {k : Nat} (len : ∀ ds M d M', rel ds M d M' → ds.length = 1) (h : ∀ ds M d M', rel ds M d M' → PSsn ⟨P, w, K, mg, base, N_need_few, defScope s_need_few, k, (fun _ => true), noW⟩ (defBody s_need_few) (start0 N_need_few ds) M (bodyP d M')) : FnS P w K mg base "need_few" (k + 1) [] rel := fns_mk (T.df 11) (T.gl 11) sc_need_few (by decide) (fun _ _ _ _ _ _ us hl => match us, hl with | [_], _ => rfl) len h
theorem mk_crossing_table [T : Txt K mg] {rel : DRel} {k : Nat} (len : ∀ ds M d M', rel ds M d M' → ds.length = 2) (h : ∀ ds M d M', rel ds M d M' → PSsn ⟨P, w, K, mg, base, N_crossing_table, defScope s_crossing_table, k, (fun _ => true), noW⟩ (defBody s_crossing_table) (start0 N_crossing_table ds) M (bodyP d M')) : FnS P w K mg base "crossing_table" (k + 1) [] rel := fns_mk (T.df 12) (T.gl 12) sc_crossing_table (by decide) (fun _ _ _ _ _ _ us hl => match us, hl with | [_, _], _ => rfl) len h
theorem mk_is_table_row [T : Txt K mg] {rel : DRel} {k : Nat} (len : ∀ ds M d M', rel ds M d M' → ds.length = 2) (h : ∀ ds M d M', rel ds M d M' → PSsn ⟨P, w, K, mg, base, N_is_table_row, defScope s_is_table_row, k, (fun _ => true), noW⟩ (defBody s_is_table_row) (start0 N_is_table_row ds) M (bodyP d M')) : FnS P w K mg base "is_table_row" (k + 1) [] rel := fns_mk (T.df 13) (T.gl 13) sc_is_table_row (by decide) (fun _ _ _ _ _ _ us hl => match us, hl with | [_, _], _ => rfl) len h
theorem mk_table_rows [T : Txt K mg] {rel : DRel} {k : Nat} (len : ∀ ds M d M', rel ds M d M' → ds.length = 3) (h : ∀ ds M d M', rel ds M d M' → PSsn ⟨P, w, K, mg, base, N_table_rows, defScope s_table_rows, k, (fun _ => true), noW⟩ (defBody s_table_rows) (start0 N_table_rows ds) M (bodyP d M')) : FnS P w K mg base "table_rows" (k + 1) [] rel := fns_mk (T.df 14) (T.gl 14) sc_table_rows (by decide) (fun _ _ _ _ _ _ us hl => match us, hl with | [_, _, _], _ => rfl) len h
theorem mk_need_entries [T : Txt K mg] {rel : DRel} {k : Nat} (len : ∀ ds M d M', rel ds M d M' → ds.length = 3) (h : ∀ ds M d M', rel ds M d M' → PSsn ⟨P, w, K, mg, base, N_need_entries, defScope s_need_entries, k, (fun _ => true), noW⟩ (defBody s_need_entries) (start0 N_need_entries ds) M (bodyP d M')) : FnS P w K mg base "need_entries" (k + 1) [] rel := fns_mk (T.df 15) (T.gl 15) sc_need_entries (by decide) (fun _ _ _ _ _ _ us hl => match us, hl with | [_, _, _], _ => rfl) len h
theorem mk_need_exchanged [T : Txt K mg] {rel : DRel} {k : Nat} (len : ∀ ds M d M', rel ds M d M' → ds.length = 2) (h : ∀ ds M d M', rel ds M d M' → PSsn ⟨P, w, K, mg, base, N_need_exchanged, defScope s_need_exchanged, k, (fun _ => true), noW⟩ (defBody s_need_exchanged) (start0 N_need_exchanged ds) M (bodyP d M')) : FnS P w K mg base "need_exchanged" (k + 1) [] rel := fns_mk (T.df 16) (T.gl 16) sc_need_exchanged (by decide) (fun _ _ _ _ _ _ us hl => match us, hl with | [_, _], _ => rfl) len h
theorem mk_found_places [T : Txt K mg] {rel : DRel} {k : Nat} (len : ∀ ds M d M', rel ds M d M' → ds.length = 2) (h : ∀ ds M d M', rel ds M d M' → PSsn ⟨P, w, K, mg, base, N_found_places, defScope s_found_places, k, (fun _ => true), noW⟩ (defBody s_found_places) (start0 N_found_places ds) M (bodyP d M')) : FnS P w K mg base "found_places" (k + 1) [] rel := fns_mk (T.df 17) (T.gl 17) sc_found_places (by decide) (fun _ _ _ _ _ _ us hl => match us, hl with | [_, _], _ => rfl) len h
theorem mk_numbered_rows [T : Txt K mg] {rel : DRel} {k : Nat} (len : ∀ ds M d M', rel ds M d M' → ds.length = 2) (h : ∀ ds M d M', rel ds M d M' → PSsn ⟨P, w, K, mg, base, N_numbered_rows, defScope s_numbered_rows, k, (fun _ => true), noW⟩ (defBody s_numbered_rows) (start0 N_numbered_rows ds) M (bodyP d M')) : FnS P w K mg base "numbered_rows" (k + 1) [] rel := fns_mk (T.df 18) (T.gl 18) sc_numbered_rows (by decide) (fun _ _ _ _ _ _ us hl => match us, hl with | [_, _], _ => rfl) len h
theorem mk_short_first [T : Txt K mg] {rel : DRel} {k : Nat} (len : ∀ ds M d M', rel ds M d M' → ds.length = 1) (h : ∀ ds M d M', rel ds M d M' → PSsn ⟨P, w, K, mg, base, N_short_first, defScope s_short_first, k, (fun _ => true), noW⟩ (defBody s_short_first) (start0 N_short_first ds) M (bodyP d M')) : FnS P w K mg base "short_first" (k + 1) [] rel := fns_mk (T.df 19) (T.gl 19) sc_short_first (by decide) (fun _ _ _ _ _ _ us hl => match us, hl with | [_], _ => rfl) len h
theorem mk_l_begin [T : Txt K mg] {rel : NRel} {k : Nat} (len : ∀ ds M R, rel ds M R → ds.length = 1) (h : ∀ ds M R, rel ds M R → PSsn ⟨P, w, K, mg, base, N_l_begin, defScope s_l_begin, k, (fun _ => true), noW⟩ (defBody s_l_begin) (start0 N_l_begin ds) M { nx := fun _ N => R .non N, rt := R }) : FnN P w K mg base "_law_begin" (k + 1) rel := fnn_mk (T.df 20) (T.gl 20) sc_l_begin (by decide) (fun _ _ _ _ _ _ us hl => match us, hl with | [_], _ => rfl) len h
theorem mk_l_draw [T : Txt K mg] {rel : DRel} {k : Nat} (len : ∀ ds M d M', rel ds M d M' → ds.length = 2) (h : ∀ ds M d M', rel ds M d M' → PSsn ⟨P, w, K, mg, base, N_l_draw, defScope s_l_draw, k, (fun _ => true), noW⟩ (defBody s_l_draw) (start0 N_l_draw ds) M (bodyP d M')) : FnS P w K mg base "_law_draw" (k + 1) [] rel := fns_mk (T.df 21) (T.gl 21) sc_l_draw (by decide) (fun _ _ _ _ _ _ us hl => match us, hl with | [_, _], _ => rfl) len h
theorem mk_l_pick [T : Txt K mg] {rel : DRel} {k : Nat} (len : ∀ ds M d M', rel ds M d M' → ds.length = 2) (h : ∀ ds M d M', rel ds M d M' → PSsn ⟨P, w, K, mg, base, N_l_pick, defScope s_l_pick, k, (fun _ => true), noW⟩ (defBody s_l_pick) (start0 N_l_pick ds) M (bodyP d M')) : FnS P w K mg base "_law_pick" (k + 1) [] rel := fns_mk (T.df 22) (T.gl 22) sc_l_pick (by decide) (fun _ _ _ _ _ _ us hl => match us, hl with | [_, _], _ => rfl) len h
theorem mk_l_scene [T : Txt K mg] {rel : DRel} {k : Nat} (len : ∀ ds M d M', rel ds M d M' → ds.length = 3) (h : ∀ ds M d M', rel ds M d M' → PSsn ⟨P, w, K, mg, base, N_l_scene, defScope s_l_scene, k, (fun _ => true), noW⟩ (defBody s_l_scene) (start0 N_l_scene ds) M (bodyP d M')) : FnS P w K mg base "_law_scene" (k + 1) [] rel := fns_mk (T.df 23) (T.gl 23) sc_l_scene (by decide) (fun _ _ _ _ _ _ us hl => match us, hl with | [_, _, _], _ => rfl) len h
theorem mk_l_cross [T : Txt K mg] {rel : DRel} {k : Nat} (len : ∀ ds M d M', rel ds M d M' → ds.length = 3) (h : ∀ ds M d M', rel ds M d M' → PSsn ⟨P, w, K, mg, base, N_l_cross, defScope s_l_cross, k, (fun _ => true), noW⟩ (defBody s_l_cross) (start0 N_l_cross ds) M (bodyP d M')) : FnS P w K mg base "_law_cross" (k + 1) [] rel := fns_mk (T.df 24) (T.gl 24) sc_l_cross (by decide) (fun _ _ _ _ _ _ us hl => match us, hl with | [_, _, _], _ => rfl) len h
theorem mk_l_home [T : Txt K mg] {rel : DRel} {k : Nat} (len : ∀ ds M d M', rel ds M d M' → ds.length = 1) (h : ∀ ds M d M', rel ds M d M' → PSsn ⟨P, w, K, mg, base, N_l_home, defScope s_l_home, k, (fun _ => true), noW⟩ (defBody s_l_home) (start0 N_l_home ds) M (bodyP d M')) : FnS P w K mg base "_law_home" (k + 1) [] rel := fns_mk (T.df 25) (T.gl 25) sc_l_home (by decide) (fun _ _ _ _ _ _ us hl => match us, hl with | [_], _ => rfl) len h
theorem mk_l_go [T : Txt K mg] {rel : DRel} {k : Nat} (len : ∀ ds M d M', rel ds M d M' → ds.length = 3) (h : ∀ ds M d M', rel ds M d M' → PSsn ⟨P, w, K, mg, base, N_l_go, defScope s_l_go, k, (fun _ => true), noW⟩ (defBody s_l_go) (start0 N_l_go ds) M (bodyP d M')) : FnS P w K mg base "_law_go" (k + 1) [] rel := fns_mk (T.df 26) (T.gl 26) sc_l_go (by decide) (fun _ _ _ _ _ _ us hl => match us, hl with | [_, _, _], _ => rfl) len h
theorem mk_l_led [T : Txt K mg] {rel : DRel} {k : Nat} (len : ∀ ds M d M', rel ds M d M' → ds.length = 3) (h : ∀ ds M d M', rel ds M d M' → PSsn ⟨P, w, K, mg, base, N_l_led, defScope s_l_led, k, (fun _ => true), noW⟩ (defBody s_l_led) (start0 N_l_led ds) M (bodyP d M')) : FnS P w K mg base "_law_led" (k + 1) [] rel := fns_mk (T.df 27) (T.gl 27) sc_l_led (by decide) (fun _ _ _ _ _ _ us hl => match us, hl with | [_, _, _], _ => rfl) len h
theorem mk_l_near [T : Txt K mg] {rel : DRel} {k : Nat} (len : ∀ ds M d M', rel ds M d M' → ds.length = 2) (h : ∀ ds M d M', rel ds M d M' → PSsn ⟨P, w, K, mg, base, N_l_near, defScope s_l_near, k, (fun _ => true), noW⟩ (defBody s_l_near) (start0 N_l_near ds) M (bodyP d M')) : FnS P w K mg base "_law_near" (k + 1) [] rel := fns_mk (T.df 28) (T.gl 28) sc_l_near (by decide) (fun _ _ _ _ _ _ us hl => match us, hl with | [_, _], _ => rfl) len h
theorem mk_l_name [T : Txt K mg] {rel : DRel} {k : Nat} (len : ∀ ds M d M', rel ds M d M' → ds.length = 2) (h : ∀ ds M d M', rel ds M d M' → PSsn ⟨P, w, K, mg, base, N_l_name, defScope s_l_name, k, (fun _ => true), noW⟩ (defBody s_l_name) (start0 N_l_name ds) M (bodyP d M')) : FnS P w K mg base "_law_name" (k + 1) [] rel := fns_mk (T.df 29) (T.gl 29) sc_l_name (by decide) (fun _ _ _ _ _ _ us hl => match us, hl with | [_, _], _ => rfl) len h
theorem mk_l_room [T : Txt K mg] {rel : DRel} {k : Nat} (len : ∀ ds M d M', rel ds M d M' → ds.length = 2) (h : ∀ ds M d M', rel ds M d M' → PSsn ⟨P, w, K, mg, base, N_l_room, defScope s_l_room, k, (fun _ => true), noW⟩ (defBody s_l_room) (start0 N_l_room ds) M (bodyP d M')) : FnS P w K mg base "_law_room" (k + 1) [] rel := fns_mk (T.df 30) (T.gl 30) sc_l_room (by decide) (fun _ _ _ _ _ _ us hl => match us, hl with | [_, _], _ => rfl) len h
theorem mk_l_fit [T : Txt K mg] {rel : DRel} {k : Nat} (len : ∀ ds M d M', rel ds M d M' → ds.length = 5) (h : ∀ ds M d M', rel ds M d M' → PSsn ⟨P, w, K, mg, base, N_l_fit, defScope s_l_fit, k, (fun _ => true), noW⟩ (defBody s_l_fit) (start0 N_l_fit ds) M (bodyP d M')) : FnS P w K mg base "_law_fit" (k + 1) [] rel := fns_mk (T.df 31) (T.gl 31) sc_l_fit (by decide) (fun _ _ _ _ _ _ us hl => match us, hl with | [_, _, _, _, _], _ => rfl) len h
theorem mk_l_doors [T : Txt K mg] {rel : DRel} {k : Nat} (len : ∀ ds M d M', rel ds M d M' → ds.length = 3) (h : ∀ ds M d M', rel ds M d M' → PSsn ⟨P, w, K, mg, base, N_l_doors, defScope s_l_doors, k, (fun _ => true), noW⟩ (defBody s_l_doors) (start0 N_l_doors ds) M (bodyP d M')) : FnS P w K mg base "_law_doors" (k + 1) [] rel := fns_mk (T.df 32) (T.gl 32) sc_l_doors (by decide) (fun _ _ _ _ _ _ us hl => match us, hl with | [_, _, _], _ => rfl) len h
theorem mk_l_numbered [T : Txt K mg] {rel : DRel} {k : Nat} (len : ∀ ds M d M', rel ds M d M' → ds.length = 3) (h : ∀ ds M d M', rel ds M d M' → PSsn ⟨P, w, K, mg, base, N_l_numbered, defScope s_l_numbered, k, (fun _ => true), noW⟩ (defBody s_l_numbered) (start0 N_l_numbered ds) M (bodyP d M')) : FnS P w K mg base "_law_numbered" (k + 1) [] rel := fns_mk (T.df 33) (T.gl 33) sc_l_numbered (by decide) (fun _ _ _ _ _ _ us hl => match us, hl with | [_, _, _], _ => rfl) len h
theorem mk_l_lists [T : Txt K mg] {rel : DRel} {k : Nat} (len : ∀ ds M d M', rel ds M d M' → ds.length = 2) (h : ∀ ds M d M', rel ds M d M' → PSsn ⟨P, w, K, mg, base, N_l_lists, defScope s_l_lists, k, (fun _ => true), noW⟩ (defBody s_l_lists) (start0 N_l_lists ds) M (bodyP d M')) : FnS P w K mg base "_law_lists" (k + 1) [] rel := fns_mk (T.df 34) (T.gl 34) sc_l_lists (by decide) (fun _ _ _ _ _ _ us hl => match us, hl with | [_, _], _ => rfl) len h
theorem mk_l_first_ways [T : Txt K mg] {rel : DRel} {k : Nat} (len : ∀ ds M d M', rel ds M d M' → ds.length = 2) (h : ∀ ds M d M', rel ds M d M' → PSsn ⟨P, w, K, mg, base, N_l_first_ways, defScope s_l_first_ways, k, (fun _ => true), noW⟩ (defBody s_l_first_ways) (start0 N_l_first_ways ds) M (bodyP d M')) : FnS P w K mg base "_law_first_ways" (k + 1) [] rel := fns_mk (T.df 35) (T.gl 35) sc_l_first_ways (by decide) (fun _ _ _ _ _ _ us hl => match us, hl with | [_, _], _ => rfl) len h
theorem mk_l_by_length [T : Txt K mg] {rel : DRel} {k : Nat} (len : ∀ ds M d M', rel ds M d M' → ds.length = 1) (h : ∀ ds M d M', rel ds M d M' → PSsn ⟨P, w, K, mg, base, N_l_by_length, defScope s_l_by_length, k, (fun _ => true), noW⟩ (defBody s_l_by_length) (start0 N_l_by_length ds) M (bodyP d M')) : FnS P w K mg base "_law_by_length" (k + 1) [] rel := fns_mk (T.df 36) (T.gl 36) sc_l_by_length (by decide) (fun _ _ _ _ _ _ us hl => match us, hl with | [_], _ => rfl) len h
theorem mk_law [T : Txt K mg] {rel : DRel} {k : Nat} (len : ∀ ds M d M', rel ds M d M' → ds.length = 1) (h : ∀ ds M d M', rel ds M d M' → PSsn ⟨P, w, K, mg, base, N_law, defScope s_law, k, (fun _ => true), noW⟩ (defBody s_law) (start0 N_law ds) M (bodyP d M')) : FnS P w K mg base "law" (k + 1) [] rel := fns_mk (T.df 37) (T.gl 37) sc_law (by decide) (fun _ _ _ _ _ _ us hl => match us, hl with | [_], _ => rfl) len h
theorem mk_Room_add [T : Txt K mg] {rel : DRel} {k : Nat} (len : ∀ ds M d M', rel ds M d M' → ds.length = 2) (h : ∀ ds M d M', rel ds M d M' → PSsn ⟨P, w, K, mg, base, N_Room_add, defScope s_Room_add, k, (fun _ => true), noW⟩ (defBody s_Room_add) (start0 N_Room_add ds) M (bodyP d M')) : MtS P w K mg base (He.ga K "Room") "__add__" (k + 1) [] rel := mts_mk (T.df 38) (T.cl 60) (T.mt 63) sc_Room_add (by decide) (fun _ _ _ _ _ _ us hl => match us, hl with | [_, _], _ => rfl) len h
theorem mk_Room_init [T : Txt K mg] {rel : DRel} {k : Nat} (len : ∀ ds M d M', rel ds M d M' → ds.length = 3) (h : ∀ ds M d M', rel ds M d M' → PSsn ⟨P, w, K, mg, base, N_Room_init, defScope s_Room_init, k, (fun _ => true), noW⟩ (defBody s_Room_init) (start0 N_Room_init ds) M (bodyP d M')) : MkS P w K mg base "Room" (He.ga K "Room") (k + 1) [] rel := mks_mkD (N := N_Room_init) (ps := P_Room_init) (T.df 39 (d := d_Room_init)) (by simp [He.DefD.dvs, d_Room_init]) (T.gl 59) (T.mk_ 64) sc_Room_init (by decide) (fun T _ _ _ _ _ _ us its hl hi => match us, its, hl, hi with | [_, _, _], [_], _, _ => ⟨_, rfl, rfl⟩) len h
theorem mk_Plan_eq [T : Txt K mg] {rel : DRel} {k : Nat} (len : ∀ ds M d M', rel ds M d M' → ds.length = 2) (h : ∀ ds M d M', rel ds M d M' → PSsn ⟨P, w, K, mg, base, N_Plan_eq, defScope s_Plan_eq, k, (fun _ => true), noW⟩ (defBody s_Plan_eq) (start0 N_Plan_eq ds) M (bodyP d M')) : MtS P w K mg base (He.ga K "Plan") "__eq__" (k + 1) [] rel := mts_mk (T.df 40) (T.cl 66) (T.mt 70) sc_Plan_eq (by decide) (fun _ _ _ _ _ _ us hl => match us, hl with | [_, _], _ => rfl) len h
theorem mk_Plan_init [T : Txt K mg] {rel : DRel} {k : Nat} (len : ∀ ds M d M', rel ds M d M' → ds.length = 3) (h : ∀ ds M d M', rel ds M d M' → PSsn ⟨P, w, K, mg, base, N_Plan_init, defScope s_Plan_init, k, (fun _ => true), noW⟩ (defBody s_Plan_init) (start0 N_Plan_init ds) M (bodyP d M')) : MkS P w K mg base "Plan" (He.ga K "Plan") (k + 1) [] rel := mks_mkD (N := N_Plan_init) (ps := P_Plan_init) (T.df 41 (d := d_Plan_init)) (by simp [He.DefD.dvs, d_Plan_init]) (T.gl 65) (T.mk_ 71) sc_Plan_init (by decide) (fun T _ _ _ _ _ _ us its hl hi => match us, its, hl, hi with | [_, _, _], [_], _, _ => ⟨_, rfl, rfl⟩) len h
theorem mk_Closed_len [T : Txt K mg] {rel : DRel} {k : Nat} (len : ∀ ds M d M', rel ds M d M' → ds.length = 1) (h : ∀ ds M d M', rel ds M d M' → PSsn ⟨P, w, K, mg, base, N_Closed_len, defScope s_Closed_len, k, (fun _ => true), noW⟩ (defBody s_Closed_len) (start0 N_Closed_len ds) M (bodyP d M')) : MtS P w K mg base (He.ga K "Closed") "__len__" (k + 1) [] rel := mts_mk (T.df 42) (T.cl 73) (T.mt 77) sc_Closed_len (by decide) (fun _ _ _ _ _ _ us hl => match us, hl with | [_], _ => rfl) len h
theorem mk_Closed_at [T : Txt K mg] {rel : DRel} {k : Nat} (len : ∀ ds M d M', rel ds M d M' → ds.length = 2) (h : ∀ ds M d M', rel ds M d M' → PSsn ⟨P, w, K, mg, base, N_Closed_at, defScope s_Closed_at, k, (fun _ => true), noW⟩ (defBody s_Closed_at) (start0 N_Closed_at ds) M (bodyP d M')) : MtS P w K mg base (He.ga K "Closed") "at" (k + 1) [] rel := mts_mk (T.df 43) (T.cl 73) (T.mt 78) sc_Closed_at (by decide) (fun _ _ _ _ _ _ us hl => match us, hl with | [_, _], _ => rfl) len h
theorem mk_Closed_walked [T : Txt K mg] {rel : DRel} {k : Nat} (len : ∀ ds M d M', rel ds M d M' → ds.length = 3) (h : ∀ ds M d M', rel ds M d M' → PSsn ⟨P, w, K, mg, base, N_Closed_walked, defScope s_Closed_walked, k, (fun _ => true), noW⟩ (defBody s_Closed_walked) (start0 N_Closed_walked ds) M (bodyP d M')) : MtS P w K mg base (He.ga K "Closed") "walked" (k + 1) [] rel := mts_mk (T.df 44) (T.cl 73) (T.mt 79) sc_Closed_walked (by decide) (fun _ _ _ _ _ _ us hl => match us, hl with | [_, _, _], _ => rfl) len h
theorem mk_Closed_first_ways [T : Txt K mg] {rel : DRel} {k : Nat} (len : ∀ ds M d M', rel ds M d M' → ds.length = 1) (h : ∀ ds M d M', rel ds M d M' → PSsn ⟨P, w, K, mg, base, N_Closed_first_ways, defScope s_Closed_first_ways, k, (fun _ => true), noW⟩ (defBody s_Closed_first_ways) (start0 N_Closed_first_ways ds) M (bodyP d M')) : MtS P w K mg base (He.ga K "Closed") "first_ways" (k + 1) [] rel := mts_mk (T.df 45) (T.cl 73) (T.mt 80) sc_Closed_first_ways (by decide) (fun _ _ _ _ _ _ us hl => match us, hl with | [_], _ => rfl) len h
theorem mk_Closed_ways [T : Txt K mg] {rel : DRel} {k : Nat} (len : ∀ ds M d M', rel ds M d M' → ds.length = 1) (h : ∀ ds M d M', rel ds M d M' → PSsn ⟨P, w, K, mg, base, N_Closed_ways, defScope s_Closed_ways, k, (fun _ => true), noW⟩ (defBody s_Closed_ways) (start0 N_Closed_ways ds) M (bodyP d M')) : MtS P w K mg base (He.ga K "Closed") "ways" (k + 1) [] rel := mts_mk (T.df 46) (T.cl 73) (T.mt 81) sc_Closed_ways (by decide) (fun _ _ _ _ _ _ us hl => match us, hl with | [_], _ => rfl) len h
theorem mk_Closed_init [T : Txt K mg] {rel : DRel} {k : Nat} (len : ∀ ds M d M', rel ds M d M' → ds.length = 3) (h : ∀ ds M d M', rel ds M d M' → PSsn ⟨P, w, K, mg, base, N_Closed_init, defScope s_Closed_init, k, (fun _ => true), noW⟩ (defBody s_Closed_init) (start0 N_Closed_init ds) M (bodyP d M')) : MkS P w K mg base "Closed" (He.ga K "Closed") (k + 1) [] rel := mks_mk (T.df 47) (T.gl 72) (T.mk_ 82) sc_Closed_init (by decide) (fun _ _ _ _ _ _ us hl => match us, hl with | [_, _, _], _ => rfl) len h
end
local macro_rules | `(tactic| wtm_at "at_") => `(tactic| first | (with_reducible exact At.here) | ((with_reducible apply At.there); wtm_at "at_"))
local macro_rules | `(tactic| wtm_at "put_") => `(tactic| first | (with_reducible exact Put.here) | ((with_reducible apply Put.there); wtm_at "put_"))
local macro_rules | `(tactic| wtm_at "mat_") => `(tactic| first | (with_reducible exact MAt.here) | ((with_reducible apply MAt.there); wtm_at "mat_"))
local macro_rules | `(tactic| wtm_at "mput_") => `(tactic| first | (with_reducible exact MPut.here) | ((with_reducible apply MPut.there); wtm_at "mput_"))
local macro_rules | `(tactic| wtm_at "mcut_") => `(tactic| first | (with_reducible exact MCut.here) | ((with_reducible apply MCut.there); wtm_at "mcut_"))
local macro_rules | `(tactic| wtm_at "sd") => `(tactic| first | assumption | omega | ((with_reducible refine sz_line ?_); first | assumption | omega | (simp; done) | (simp; omega)) | ((with_reducible refine sz_lt ?_); first | assumption | omega | (simp; omega)) | ((with_reducible refine Nat.le_trans (List.length_filter_le _ _) ?_); wtm_at "sd") | (exact Nat.le_trans (by assumption) (by decide)) | (simp; done) | (simp; omega))
local macro_rules | `(tactic| wtm_at "args") => `(tactic| first | exact pas_nil | exact pas_cons (by wtm_at "ev") (by wtm_at "args"))
local macro_rules | `(tactic| wtm_at "pinD") => `(tactic| first | exact px_str | exact px_lst | exact px_tup | exact px_dct)
local macro_rules | `(tactic| wtm_at "pin") => `(tactic| first
  | ((with_reducible show PInM _ _ (Expr.Call (Expr.Name "range" _) [_] [] _) _ _ _ _ _); exact pin_range (by wtm_at "ev") (by wtm_at "gf") (by first | omega | wtm_at "sd") (by first | omega | wtm_at "sd"))
  | ((with_reducible show PInM _ _ (Expr.Call (Expr.Name "enumerate" _) [_] [] _) _ _ _ _ _); exact pin_enum (by wtm_at "ev") (by infer_instance) (by wtm_at "gf"))
  | ((with_reducible show PInM _ _ (Expr.Call (Expr.Name "zip" _) [_, _] [] _) _ _ _ _ _); exact pin_zip (by wtm_at "ev") (by wtm_at "ev") (by infer_instance) (by infer_instance) (by wtm_at "gf"))
  | exact pin_of (by wtm_at "ev") (by wtm_at "pinD"))
local macro_rules | `(tactic| wtm_at "pif") => `(tactic| first | exact PIf.nil | exact PIf.one (by wtm_at "evb"))
local macro_rules | `(tactic| wtm_at "lmap") => `(tactic| first | rfl | exact (List.map_id _).symm)
local macro_rules | `(tactic| wtm_at "lcs") => `(tactic| exact lc_nm (by wtm_at "pin") (by wtm_at "lmap") (by wtm_at "nix") (by wtm_at "wipe_") (by wtm_at "put_") (by dsimp only; decide +kernel) (by wtm_at "sd") (fun a ha => ⟨by wtm_at "pif", fun ht => by wtm_at "ev"⟩))
local macro_rules | `(tactic| wtm_at "ev1") => `(tactic| first
  | ((with_reducible show PN _ (Expr.ListComp _ [⟨Expr.Name _ _, _, _, _⟩] _ _) _ _ _); exact pv_lc (by wtm_at "lcs"))
  | ((with_reducible show PN _ (Expr.Call (Expr.Attribute _ "join" _) [_] [] _) _ _ _); first | exact pv_join1 (by wtm_at "ev") (by wtm_at "ev") (by wtm_at "lmap") (by wtm_at "sd"))
  | ((with_reducible show PN _ (Expr.Call (Expr.Attribute _ "find" _) [_] [] _) _ _ _); exact pv_find1 (by wtm_at "ev") (by wtm_at "ev") (by wtm_at "sd"))
  | ((with_reducible show PN _ (Expr.IfExp _ _ _ _) _ _ _); exact pv_ifd (by wtm_at "evb") (by intro hh; (try replace hh := of_decide_eq_true hh); wtm_at "ev") (by intro hh; (try replace hh := of_decide_eq_false hh); wtm_at "ev"))
  | ((with_reducible show PN _ (Expr.Tuple _ _ _) _ _ _); exact pv_tup (by wtm_at "args") (by exact sz_line (by simp)))
  | ((with_reducible show PN _ (Expr.List _ _) _ _ _); exact pv_lst (by wtm_at "args") (by exact sz_line (by simp)))
  | ((with_reducible show PN _ (Expr.ListComp _ [⟨Expr.Name _ _, _, _, _⟩, ⟨Expr.Name _ _, _, _, _⟩] _ _) _ _ _); exact pv_lc2 (by wtm_at "lc2s"))
  | wtm_at "ev2")
local macro_rules | `(tactic| wtm_at "lc2s") => `(tactic| exact lc2_nm (by wtm_at "pin") trivial (by wtm_at "lmap") (by wtm_at "nix") (by wtm_at "nix") (by wtm_at "wipe_") (by wtm_at "put_") (by dsimp only; decide +kernel) (by wtm_at "sd") (fun a ha => ⟨_, _, _, by wtm_at "wipe_", by wtm_at "put_", ⟨_, trivial, by wtm_at "pin"⟩, by wtm_at "lmap", fun b hb => ⟨by wtm_at "pif", fun ht => by wtm_at "ev"⟩⟩))
local macro_rules | `(tactic| wtm_at "gf") => `(tactic| first | infer_instance | (dsimp only; infer_instance))
local macro_rules | `(tactic| wtm_at "lk_") => `(tactic| first | (with_reducible exact lk0) | (with_reducible exact lkN) | (refine lkS (by decide +kernel) ?_; wtm_at "lk_"))
local macro_rules | `(tactic| wtm_at "op_") => `(tactic| first
  | exact o_add | exact o_sub | exact o_lt | exact o_le | exact o_gt | exact o_ge | exact o_eqI | exact o_neI | exact o_eqS | exact o_neS | exact o_eqB | exact o_neB | exact o_ltS | exact o_inS | exact o_ninS
  | (refine o_cat ?_; wtm_at "sd") | (refine o_mul ?_; wtm_at "sd") | (refine o_mod ?_; wtm_at "sd") | (refine o_fdiv ?_; wtm_at "sd") | (refine o_pow ?_; wtm_at "sd") | wtm_at "op1")
local macro_rules | `(tactic| wtm_at "ty_") => `(tactic| first
  | ((with_reducible show PN _ (Expr.Name "int" _) _ _ _); exact pv_type (T := "int") (by decide +kernel) inferInstance)
  | ((with_reducible show PN _ (Expr.Name "bool" _) _ _ _); exact pv_type (T := "bool") (by decide +kernel) inferInstance)
  | ((with_reducible show PN _ (Expr.Name "str" _) _ _ _); exact pv_type (T := "str") (by decide +kernel) inferInstance)
  | ((with_reducible show PN _ (Expr.Name "list" _) _ _ _); exact pv_type (T := "list") (by decide +kernel) inferInstance)
  | ((with_reducible show PN _ (Expr.Name "tuple" _) _ _ _); exact pv_type (T := "tuple") (by decide +kernel) inferInstance)
  | ((with_reducible show PN _ (Expr.Name "dict" _) _ _ _); exact pv_type (T := "dict") (by decide +kernel) inferInstance)
  | wtm_at "ty1")
local macro_rules | `(tactic| wtm_at "key_") => `(tactic| first | exact kS _ | exact kI _)
local macro_rules | `(tactic| wtm_at "dat_") => `(tactic| first
  | ((with_reducible show DctAt _ (D.dct _) _ _); exact dct_at) | ((with_reducible show DctAt _ (D.ref _) _ _); first | exact dctM_at (by wtm_at "mat_") | exact dctL_at (by wtm_at "mat_")))
local macro_rules | `(tactic| wtm_at "seq_") => `(tactic| first | exact sq_lst | exact sq_tup | exact sq_M (by wtm_at "mat_"))
local macro_rules | `(tactic| wtm_at "datM") => `(tactic| first | exact dctM_at (by wtm_at "mat_") | exact dctL_at (by wtm_at "mat_"))
local macro_rules | `(tactic| wtm_at "inx") => `(tactic| first
  | ((with_reducible show InX _ _ _ _ _ (D.str _) _ (D.ref _) _ _ _); first | exact in_op (o_inF (f := D.str) (sq_M (by wtm_at "mat_"))) | exact in_d (by wtm_at "key_") (by wtm_at "datM"))
  | ((with_reducible show InX _ _ _ _ _ (D.int _) _ (D.ref _) _ _ _); first | exact in_op (o_inF (f := D.int) (sq_M (by wtm_at "mat_"))) | exact in_d (by wtm_at "key_") (by wtm_at "datM"))
  | ((with_reducible show InX _ _ _ _ _ (D.str _) _ (D.str _) _ _ _); exact in_op o_inS)
  | ((with_reducible show InX _ _ _ _ _ _ _ (D.dct _) _ _ _); exact in_d (by wtm_at "key_") (by wtm_at "dat_"))
  | ((with_reducible show InX _ _ _ _ _ (D.str _) _ _ _ _ _); exact in_op (o_inF (f := D.str) (by wtm_at "seq_")))
  | ((with_reducible show InX _ _ _ _ _ (D.int _) _ _ _ _ _); exact in_op (o_inF (f := D.int) (by wtm_at "seq_")))
  | exact in_d (by wtm_at "key_") (by wtm_at "dat_"))
local macro_rules | `(tactic| wtm_at "ninx") => `(tactic| first
  | ((with_reducible show NInX _ _ _ _ _ (D.str _) _ (D.ref _) _ _ _); first | exact nin_op (o_ninF (f := D.str) (sq_M (by wtm_at "mat_"))) | exact nin_d (by wtm_at "key_") (by wtm_at "datM"))
  | ((with_reducible show NInX _ _ _ _ _ (D.int _) _ (D.ref _) _ _ _); first | exact nin_op (o_ninF (f := D.int) (sq_M (by wtm_at "mat_"))) | exact nin_d (by wtm_at "key_") (by wtm_at "datM"))
  | ((with_reducible show NInX _ _ _ _ _ (D.str _) _ (D.str _) _ _ _); exact nin_op o_ninS)
  | ((with_reducible show NInX _ _ _ _ _ _ _ (D.dct _) _ _ _); exact nin_d (by wtm_at "key_") (by wtm_at "dat_"))
  | ((with_reducible show NInX _ _ _ _ _ (D.str _) _ _ _ _ _); exact nin_op (o_ninF (f := D.str) (by wtm_at "seq_")))
  | ((with_reducible show NInX _ _ _ _ _ (D.int _) _ _ _ _ _); exact nin_op (o_ninF (f := D.int) (by wtm_at "seq_")))
  | exact nin_d (by wtm_at "key_") (by wtm_at "dat_"))
local macro_rules | `(tactic| wtm_at "wipe_") => `(tactic| first | (with_reducible exact Wipe.nil) | (with_reducible exact Wipe.cons (by wtm_at "wipe_") (by wtm_at "put_")))
local macro_rules | `(tactic| wtm_at "ix0") => `(tactic| first
  | ((with_reducible show IxD _ _ _ _ _ (D.tup (List.map nD _)) _ (D.int (Nat.cast _)) _ _ _); exact ix_nT (by wtm_at "sd"))
  | ((with_reducible show IxD _ _ _ _ _ (D.lst (List.map nD _)) _ (D.int (Nat.cast _)) _ _ _); exact ix_nL (by wtm_at "sd"))
  | ((with_reducible show IxD _ _ _ _ _ (D.tup (List.map rowT _)) _ (D.int (Nat.cast _)) _ _ _); exact ix_rT (by wtm_at "sd"))
  | ((with_reducible show IxD _ _ _ _ _ (D.lst (List.map rowL _)) _ (D.int (Nat.cast _)) _ _ _); exact ix_rL (by wtm_at "sd"))
  | ((with_reducible show IxD _ _ _ _ _ (D.tup (List.map rowT _)) _ (D.int 0) _ _ _); exact ix_r0T (by wtm_at "sd"))
  | ((with_reducible show IxD _ _ _ _ _ (D.lst (List.map rowL _)) _ (D.int 0) _ _ _); exact ix_r0L (by wtm_at "sd"))
  | ((with_reducible show IxD _ _ _ _ _ (D.lst (List.map D.str _)) _ (D.int (Nat.cast _)) _ _ _); exact ix_sL (by wtm_at "sd"))
  | ((with_reducible show IxD _ _ _ _ _ (D.tup (List.map D.str _)) _ (D.int (Nat.cast _)) _ _ _); exact ix_sT (by wtm_at "sd"))
  | ((with_reducible show IxD _ _ _ _ _ (D.ref _) _ (D.int (Nat.cast _)) _ _ _); exact ix_nM (by wtm_at "mat_") (by wtm_at "sd")))
local macro_rules | `(tactic| wtm_at "ix_") => `(tactic| first
  | wtm_at "ix0"
  | ((with_reducible show IxD _ _ _ _ _ (D.str _) _ (D.int _) _ _ _); first | exact ix_S (by wtm_at "sd") (by assumption) (by wtm_at "sd") | exact ix_S' (by wtm_at "sd") (by wtm_at "sd") (by wtm_at "sd"))
  | ((with_reducible show IxD _ _ _ _ _ (D.lst _) _ (D.int _) _ _ _); first | exact ix_L (by wtm_at "sd") (by assumption) | exact ix_I (by wtm_at "sd") (by wtm_at "sd") | exact ix_L (by wtm_at "sd") (by wtm_at "sd"))
  | ((with_reducible show IxD _ _ _ _ _ (D.tup _) _ (D.int _) _ _ _); exact ix_T (by wtm_at "sd") (by wtm_at "sd"))
  | ((with_reducible show IxD _ _ _ _ _ (D.ref _) _ (D.int _) _ _ _); exact ix_M (by wtm_at "mat_") (by wtm_at "sd") (by wtm_at "sd"))
  | ((with_reducible show IxD _ _ _ _ _ (D.dct _) _ (D.int _) _ _ _); exact ix_D (j := Sum.inl _) rfl (by wtm_at "sd"))
  | ((with_reducible show IxD _ _ _ _ _ (D.dct _) _ (D.str _) _ _ _); exact ix_D (j := Sum.inr _) rfl (by wtm_at "sd"))
  | ((with_reducible show IxD _ _ _ _ _ (D.ref _) _ (D.int _) _ _ _); exact ix_DM (j := Sum.inl _) (by wtm_at "mat_") rfl (by wtm_at "sd"))
  | ((with_reducible show IxD _ _ _ _ _ (D.ref _) _ (D.str _) _ _ _); exact ix_DM (j := Sum.inr _) (by wtm_at "mat_") rfl (by wtm_at "sd"))
  | wtm_at "ix1")
local macro_rules | `(tactic| wtm_at "part_") => `(tactic| first | exact pp_none | ((with_reducible show PPart _ (some _) _ _ _ _); exact pp_some (by wtm_at "ev")))
local macro_rules | `(tactic| wtm_at "b1_") => `(tactic| first
  | ((with_reducible show B1 _ "len" _ _ _ (D.str _) _ _ _ _ _); exact b_lenS (by wtm_at "sd") (by wtm_at "gf"))
  | ((with_reducible show B1 _ "len" _ _ _ (D.lst _) _ _ _ _ _); exact b_lenL (by wtm_at "gf"))
  | ((with_reducible show B1 _ "len" _ _ _ (D.tup _) _ _ _ _ _); exact b_lenT (by wtm_at "gf"))
  | ((with_reducible show B1 _ "len" _ _ _ (D.ref _) _ _ _ _ _); exact b_lenM (by wtm_at "mat_") (by wtm_at "gf"))
  | ((with_reducible show B1 _ "int" _ _ _ (D.int _) _ _ _ _ _); exact b_int (by wtm_at "gf"))
  | ((with_reducible show B1 _ "int" _ _ _ (D.bl _) _ _ _ _ _); exact b_intB (by wtm_at "gf"))
  | ((with_reducible show B1 _ "str" _ _ _ (D.str _) _ _ _ _ _); exact b_str (by wtm_at "gf"))
  | ((with_reducible show B1 _ "abs" _ _ _ (D.int _) _ _ _ _ _); exact b_abs (by wtm_at "gf"))
  | ((with_reducible show B1 _ "tuple" _ _ _ (D.lst _) _ _ _ _ _); exact b_tupL (by wtm_at "gf"))
  | ((with_reducible show B1 _ "tuple" _ _ _ (D.tup _) _ _ _ _ _); exact b_tupT (by wtm_at "gf"))
  | ((with_reducible show B1 _ "list" _ _ _ (D.lst _) _ _ _ _ _); exact b_listL (by wtm_at "gf"))
  | ((with_reducible show B1 _ "list" _ _ _ (D.tup _) _ _ _ _ _); exact b_listT (by wtm_at "gf"))
  | wtm_at "b11")
local macro_rules | `(tactic| wtm_at "fd_") => `(tactic| first
  | ((with_reducible show FdD _ _ _ _ _ (D.obj _ _) _ _ _); exact fd_o (by wtm_at "gf") (by wtm_at "lk_"))
  | ((with_reducible show FdD _ _ _ _ _ (D.ref _) _ _ _); exact fd_M (by wtm_at "mat_") (by wtm_at "gf") (by wtm_at "lk_")))
local macro_rules | `(tactic| wtm_at "sl_") => `(tactic| first | ((with_reducible show SlD _ _ _ _ _ _ (D.str _) _ _ _ _ _ _ _ _); exact sl_S (by wtm_at "sd")) | exact sl_L)
local macro_rules | `(tactic| wtm_at "rv_") => `(tactic| first | ((with_reducible show RvD _ _ _ _ (D.str _) _ _ _ _ _ _ _); exact rv_S (by wtm_at "sd")) | exact rv_L)
local macro_rules | `(tactic| wtm_at "ev") => `(tactic| first
  | ((with_reducible show PN _ (Expr.Constant _ _ _) _ _ _); first | exact pv_int | exact pv_str | exact pv_bl | exact pv_non)
  | ((with_reducible show PN _ (Expr.Name _ _) _ _ _); first | wtm_at "ev_name" | exact pv_name (by wtm_at "at_"))
  | ((with_reducible show PN _ (Expr.Compare _ [CmpOp.In] [_] _) _ _ _); exact pv_in (by wtm_at "ev") (by wtm_at "ev") (by wtm_at "inx"))
  | ((with_reducible show PN _ (Expr.Compare _ [CmpOp.NotIn] [_] _) _ _ _); exact pv_nin (by wtm_at "ev") (by wtm_at "ev") (by wtm_at "ninx"))
  | ((with_reducible show PN _ (Expr.Call (Expr.Name "isinstance" _) [_, Expr.Tuple [_, _] _ _] [] _) _ _ _); exact pv_isi2 (by wtm_at "ev") (by wtm_at "ty_") (by wtm_at "ty_") inferInstance inferInstance inferInstance inferInstance inferInstance inferInstance)
  | ((with_reducible show PN _ (Expr.Call (Expr.Name "isinstance" _) [_, _] [] _) _ _ _); exact pv_isi (by wtm_at "ev") (by wtm_at "ty_") inferInstance inferInstance inferInstance inferInstance)
  | ((with_reducible show PN _ (Expr.BinOp _ _ _ _) _ _ _); exact pv_bin (by wtm_at "ev") (by wtm_at "ev") (by wtm_at "op_"))
  | ((with_reducible show PN _ (Expr.Compare _ [_] [_] _) _ _ _); first | wtm_at "ev_cmp" | exact pv_cmp (by wtm_at "ev") (by wtm_at "ev") (by wtm_at "op_"))
  | ((with_reducible show PN _ (Expr.Attribute _ _ _) _ _ _); exact pv_att (by wtm_at "ev") (by wtm_at "fd_"))
  | ((with_reducible show PN _ (Expr.Subscript _ (Expr.Slice _ _ none _) _) _ _ _); exact pv_slice (by wtm_at "ev") (by wtm_at "part_") (by wtm_at "part_") (by wtm_at "sl_"))
  | ((with_reducible show PN _ (Expr.Subscript _ (Expr.Slice none none (some _) _) _) _ _ _); exact pv_rev (by wtm_at "ev") (by wtm_at "rv_"))
  | ((with_reducible show PN _ (Expr.Subscript _ _ _) _ _ _); exact pv_sub (by wtm_at "ev") (by wtm_at "ev") (by wtm_at "ix_"))
  | ((with_reducible show PN _ (Expr.Call (Expr.Name _ _) [_] [] _) _ _ _); first | wtm_at "ev_call" | exact pv_b1 (by wtm_at "ev") (by wtm_at "b1_"))
  | ((with_reducible show PN _ (Expr.BoolOp BoolOp.And _ _) _ _ _); exact pv_and (by wtm_at "ev") (by intro hh; (try replace hh := of_decide_eq_true hh); wtm_at "evv"))
  | ((with_reducible show PN _ (Expr.BoolOp BoolOp.Or _ _) _ _ _); exact pv_or (by wtm_at "ev") (by intro hh; (try replace hh := of_decide_eq_false hh); wtm_at "evv"))
  | ((with_reducible show PN _ (Expr.UnaryOp UnaryOp.Not _ _) _ _ _); exact pv_not (by wtm_at "ev"))
  | ((with_reducible show PN _ (Expr.UnaryOp UnaryOp.USub _ _) _ _ _); exact pv_neg (by wtm_at "ev"))
  | (wtm_at "ev1"))
local macro_rules | `(tactic| wtm_at "evv") => `(tactic| first
  | ((with_reducible show PN _ (Expr.BoolOp _ [_] _) _ _ _); exact pv_one (by wtm_at "ev"))
  | wtm_at "ev")
local macro_rules | `(tactic| wtm_at "evb") => `(tactic| first
  | ((with_reducible show PTn _ (Expr.Compare _ [CmpOp.In] [_] _) _ _ _); exact pb_in (by wtm_at "ev") (by wtm_at "ev") (by wtm_at "inx"))
  | ((with_reducible show PTn _ (Expr.Compare _ [CmpOp.NotIn] [_] _) _ _ _); exact pb_nin (by wtm_at "ev") (by wtm_at "ev") (by wtm_at "ninx"))
  | ((with_reducible show PTn _ (Expr.Compare _ [_, _] [_, _] _) _ _ _); exact pb_chain (by wtm_at "ev") (by wtm_at "ev") (by wtm_at "op_") (by intro _; wtm_at "ev") (by intro _; wtm_at "op_"))
  | ((with_reducible show PTn _ (Expr.Compare _ [_] [_] _) _ _ _); first | wtm_at "evb_cmp" | exact pb_cmp (by wtm_at "ev") (by wtm_at "ev") (by wtm_at "op_"))
  | ((with_reducible show PTn _ (Expr.UnaryOp UnaryOp.Not _ _) _ _ _); exact pb_not (by wtm_at "evb"))
  | ((with_reducible show PTn _ (Expr.BoolOp BoolOp.And _ _) _ _ _); exact pb_w (pw_and' (by wtm_at "evb") (by intro hh; (try replace hh := of_decide_eq_true hh); wtm_at "evw")))
  | ((with_reducible show PTn _ (Expr.BoolOp BoolOp.Or _ _) _ _ _); exact pb_w (pw_or' (by wtm_at "evb") (by intro hh; (try replace hh := of_decide_eq_true hh); wtm_at "evw")))
  | exact pb_val (by wtm_at "ev"))
local macro_rules | `(tactic| wtm_at "evw") => `(tactic| first
  | ((with_reducible show PWn _ (Expr.BoolOp BoolOp.And [_] _) _ _ _); exact pw_a1 (by wtm_at "evb")) | ((with_reducible show PWn _ (Expr.BoolOp BoolOp.Or [_] _) _ _ _); exact pw_o1 (by wtm_at "evb"))
  | ((with_reducible show PWn _ (Expr.BoolOp BoolOp.And _ _) _ _ _); exact pw_and' (by wtm_at "evb") (by intro hh; (try replace hh := of_decide_eq_true hh); wtm_at "evw"))
  | ((with_reducible show PWn _ (Expr.BoolOp BoolOp.Or _ _) _ _ _); exact pw_or' (by wtm_at "evb") (by intro hh; (try replace hh := of_decide_eq_true hh); wtm_at "evw")))
local macro_rules | `(tactic| wtm_at "sset") => `(tactic| refine ss_set (by wtm_at "put_") (by wtm_at "ev") ?_)
local macro_rules | `(tactic| wtm_at "sret") => `(tactic| refine ss_ret (by wtm_at "ev") ?_)
local macro_rules | `(tactic| wtm_at "tgn") => `(tactic| first
  | ((with_reducible show PGn _ (Expr.Name _ _) _ _); exact pgn_name (by wtm_at "nix") (by dsimp only; decide +kernel))
  | ((with_reducible show PGn _ (Expr.Tuple _ _ _) _ _); first | exact pgn_nm2 (by wtm_at "nix") (by wtm_at "nix") (by dsimp only; decide +kernel) | exact pgn_tup (by wtm_at "tgs")))
local macro_rules | `(tactic| wtm_at "tgs") => `(tactic| first
  | ((with_reducible show PGsn _ [] _ _); exact pgsn_nil)
  | ((with_reducible show PGsn _ (_ :: _) _ _); exact pgsn_cons (by wtm_at "tgn") (by wtm_at "tgs")))
local macro_rules | `(tactic| wtm_at "nix") => `(tactic| first | (with_reducible exact nix0) | ((with_reducible apply nixS); wtm_at "nix"))
local macro_rules | `(tactic| wtm_at "bd") => `(tactic| (conv in (defBody _) => whnf))
local macro_rules | `(tactic| wtm_at "pf_") => `(tactic| first | (with_reducible exact pf0) | (with_reducible exact pfH) | exact pfS (by decide +kernel) (by wtm_at "pf_"))
local macro_rules | `(tactic| wtm_at "lno") => `(tactic| first | (with_reducible exact lkN) | (refine lkS (by decide +kernel) ?_; wtm_at "lno"))
local macro_rules | `(tactic| wtm_at "disp") => `(tactic| first | exact PPsD.nil | exact PPsD.cons (by wtm_at "ev") (by wtm_at "key_") (by wtm_at "ev") (by wtm_at "disp"))
local macro_rules | `(tactic| wtm_at "ev_name") => `(tactic| first
  | ((with_reducible show PN _ (Expr.Name "MOST_KINDS" _) _ _ _); exact pv_MOST_KINDS (by wtm_at "gf"))
  | ((with_reducible show PN _ (Expr.Name "MOST_LETTERS" _) _ _ _); exact pv_MOST_LETTERS (by wtm_at "gf"))
  | ((with_reducible show PN _ (Expr.Name "LETTERS" _) _ _ _); exact pv_LETTERS (by wtm_at "gf")))
local macro_rules | `(tactic| wtm_at "ty1") => `(tactic| first
  | ((with_reducible show PN _ (Expr.Name "Room" _) _ _ _); exact pv_Room (by wtm_at "gf"))
  | ((with_reducible show PN _ (Expr.Name "Plan" _) _ _ _); exact pv_Plan (by wtm_at "gf"))
  | ((with_reducible show PN _ (Expr.Name "Closed" _) _ _ _); exact pv_Closed (by wtm_at "gf")))

theorem len_sub {α : Type} [DecidableEq α] : ∀ {l l' : List α}, l.Nodup → (∀ a ∈ l, a ∈ l') → l.length ≤ l'.length
  | [], _, _, _ => Nat.zero_le _
  | a :: l, l', hn, h => by
    have ha := h a (List.mem_cons_self ..)
    have := len_sub (l := l) (l' := l'.erase a) (List.nodup_cons.mp hn).2 fun b hb => (List.mem_erase_of_ne (show b ≠ a from fun e => (List.nodup_cons.mp hn).1 (by rw [← e]; exact hb))).mpr (h b (List.mem_cons_of_mem _ hb))
    rw [List.length_erase_of_mem ha] at this
    have := List.length_pos_of_mem ha
    rw [List.length_cons]; omega
/-! Words in kinds of which some cross: normal forms, and the vector that the law leads. -/
section
variable (cr : Nat → Nat → Bool)
/-- the vector behind a door -/
def act (x : Nat → Int) (s : Nat) : Nat → Int := fun t => if t = s then - x s else if cr t s then x t else x t + 2 * x s
/-- the vector of a way: the last door is the first -/
def vec : List Nat → Nat → Int
  | [] => fun _ => 1
  | s :: w => act cr (vec w) s
def ledv (x : Nat → Int) (w : List Nat) : Nat → Int := w.foldl (act cr) x
theorem ledv_rev (w : List Nat) : ledv cr (fun _ => 1) w.reverse = vec cr w := by
  induction w with
  | nil => rfl
  | cons s w ih =>
    unfold ledv at *
    rw [List.reverse_cons, List.foldl_append, ih]; rfl
structure CrOk : Prop where
  irr : ∀ a, cr a a = false
  sym : ∀ a b, cr a b = cr b a
variable {cr} (C : CrOk cr)
theorem act_act (x : Nat → Int) (s : Nat) : act cr (act cr x s) s = x := by
  funext t
  unfold act
  by_cases h : t = s
  · subst h; simp
  · simp only [h, if_false, if_true]
    split
    · rfl
    · omega
theorem act_comm (C : CrOk cr) (x : Nat → Int) {s t : Nat} (h : cr s t = true) : act cr (act cr x s) t = act cr (act cr x t) s := by
  have h' : cr t s = true := by rw [C.sym]; exact h
  have hne : s ≠ t := fun e => by subst e; rw [C.irr] at h; cases h
  funext u
  unfold act
  by_cases h1 : u = t
  · subst h1
    simp [h', hne, Ne.symm hne]
  · by_cases h2 : u = s
    · subst h2
      simp [h, hne]
    · simp only [h1, h2, if_false, h, h', if_true, hne, Ne.symm hne]
      split <;> split <;> omega
def fold (u : List Nat) (x : Nat → Int) : Nat → Int := u.foldr (fun s x => act cr x s) x
theorem vec_app (u w : List Nat) : vec cr (u ++ w) = fold (cr := cr) u (vec cr w) := by
  induction u with
  | nil => rfl
  | cons s u ih => show act cr (vec cr (u ++ w)) s = _; rw [ih]; rfl
theorem fold_act (C : CrOk cr) {k : Nat} : ∀ {b : List Nat}, (∀ c ∈ b, cr c k = true) → ∀ x, fold (cr := cr) b (act cr x k) = act cr (fold (cr := cr) b x) k
  | [], _, _ => rfl
  | c :: b, h, x => by
    show act cr (fold (cr := cr) b (act cr x k)) c = _
    rw [fold_act C (fun d hd => h d (List.mem_cons_of_mem _ hd))]
    exact act_comm C _ (by rw [C.sym]; exact h c (List.mem_cons_self ..))
theorem vec_fold (w : List Nat) : vec cr w = fold (cr := cr) w (fun _ => 1) := by
  have := vec_app (cr := cr) w []
  rw [List.append_nil] at this; exact this
theorem fold_app (u w : List Nat) (x : Nat → Int) : fold (cr := cr) (u ++ w) x = fold (cr := cr) u (fold (cr := cr) w x) := by unfold fold; rw [List.foldr_append]
theorem vec_past (C : CrOk cr) {k : Nat} {a b : List Nat} (h : ∀ c ∈ b, cr c k = true) (x : Nat → Int) : fold (cr := cr) (a ++ (b ++ [k])) x = fold (cr := cr) (a ++ (k :: b)) x := by
  rw [fold_app, fold_app, fold_app]
  exact congrArg _ (fold_act C h x)
theorem vec_out (C : CrOk cr) {k : Nat} {a b : List Nat} (h : ∀ c ∈ b, cr c k = true) (x : Nat → Int) : fold (cr := cr) (a ++ (k :: (b ++ [k]))) x = fold (cr := cr) (a ++ b) x := by
  rw [fold_app, fold_app]
  refine congrArg _ ?_
  show act cr (fold (cr := cr) (b ++ [k]) x) k = _
  rw [fold_app]
  show act cr (fold (cr := cr) b (act cr x k)) k = _
  rw [fold_act C h, act_act]
/-! ### with which doors a way can begin -/
def fst (cr : Nat → Nat → Bool) : List Nat → Nat → Prop
  | [], _ => False
  | s :: w, t => t = s ∨ (cr t s = true ∧ fst cr w t)
/-- a normal form, from the left -/
def NF (cr : Nat → Nat → Bool) : List Nat → Prop
  | [] => True
  | s :: w => NF cr w ∧ ∀ t, fst cr w t → t ≠ s ∧ (cr t s = true → s < t)
theorem vec_sign (C : CrOk cr) : ∀ {w : List Nat}, NF cr w → (∀ t, (fst cr w t → vec cr w t < 0) ∧ (¬ fst cr w t → 0 < vec cr w t)) ∧ ∀ s t, s ≠ t → cr s t = false → 0 < vec cr w s + vec cr w t
  | [], _ => ⟨fun t => ⟨fun h => h.elim, fun _ => by show (0 : Int) < 1; decide⟩, fun _ _ _ _ => by show (0 : Int) < 1 + 1; decide⟩
  | u :: w, ⟨hw, hu⟩ => by
    obtain ⟨h1, h2⟩ := vec_sign C hw
    have hp : 0 < vec cr w u := (h1 u).2 fun h => (hu u h).1 rfl
    have e : ∀ t, vec cr (u :: w) t = if t = u then - vec cr w u else if cr t u then vec cr w t else vec cr w t + 2 * vec cr w u := fun t => rfl
    constructor
    · intro t
      rw [e]
      by_cases ht : t = u
      · rw [if_pos ht]
        exact ⟨fun _ => by omega, fun h => (h (.inl ht)).elim⟩
      · rw [if_neg ht]
        cases hc : cr t u with
        | true =>
          rw [if_pos rfl]
          exact ⟨fun h => by
            rcases h with h | h
            · exact (ht h).elim
            · exact (h1 t).1 h.2, fun h => (h1 t).2 fun h' => h (.inr ⟨hc, h'⟩)⟩
        | false =>
          rw [if_neg (by simp)]
          have := h2 t u ht hc
          exact ⟨fun h => by
            rcases h with h | h
            · exact (ht h).elim
            · (rw [hc] at h; exact absurd h.1 (by decide)), fun _ => by omega⟩
    · intro s t hst hc
      have hct : cr t s = false := by rw [C.sym]; exact hc
      rw [e, e]
      by_cases hs : s = u
      · subst hs
        rw [if_pos rfl, if_neg (Ne.symm hst), hct, if_neg (by simp)]
        have := h2 s t hst hc
        omega
      · rw [if_neg hs]
        by_cases ht : t = u
        · subst ht
          rw [if_pos rfl, hc, if_neg (by simp)]
          have := h2 s t hst hc
          omega
        · rw [if_neg ht]
          have := h2 s t hst hc
          split <;> split <;> omega
/-! ### normal forms by places -/
def NFi (cr : Nat → Nat → Bool) (f : Nat → Nat) (n : Nat) : Prop :=
  ∀ i j, i < j → j < n → (∀ m, i < m → m < j → cr (f m) (f j) = true) → f i ≠ f j ∧ (cr (f i) (f j) = true → f i < f j)
theorem fst_iff {t : Nat} : ∀ {w : List Nat}, fst cr w t ↔ ∃ j, j < w.length ∧ w.getD j 0 = t ∧ ∀ m, m < j → cr t (w.getD m 0) = true
  | [] => ⟨fun h => h.elim, fun ⟨j, h, _⟩ => absurd h (Nat.not_lt_zero _)⟩
  | s :: w => by
    constructor
    · rintro (h | ⟨h1, h2⟩)
      · exact ⟨0, by simp, by simp [h], fun m hm => absurd hm (Nat.not_lt_zero _)⟩
      · obtain ⟨j, a, b, d⟩ := fst_iff.mp h2
        refine ⟨j + 1, by simpa using a, by simpa using b, fun m hm => ?_⟩
        cases m with
        | zero => simpa using h1
        | succ m => simpa using d m (by omega)
    · rintro ⟨j, a, b, d⟩
      cases j with
      | zero => exact .inl (by simpa using b.symm)
      | succ j => exact .inr ⟨by simpa using d 0 (by omega), fst_iff.mpr ⟨j, by simpa using a, by simpa using b, fun m hm => by simpa using d (m + 1) (by omega)⟩⟩
theorem nf_iff (C : CrOk cr) : ∀ {w : List Nat}, NF cr w ↔ NFi cr (fun i => w.getD i 0) w.length
  | [] => ⟨fun _ i j _ h => absurd h (Nat.not_lt_zero _), fun _ => trivial⟩
  | s :: w => by
    have ih := nf_iff C (w := w)
    constructor
    · rintro ⟨h1, h2⟩ i j hij hj hm
      cases j with
      | zero => omega
      | succ j =>
        cases i with
        | zero =>
          have hf : fst cr w (w.getD j 0) := fst_iff.mpr ⟨j, by simpa using hj, rfl, fun m hm' => by
            have := hm (m + 1) (by omega) (by omega)
            rw [C.sym]; simpa using this⟩
          have := h2 _ hf
          simp only [List.getD_cons_zero, List.getD_cons_succ]
          refine ⟨this.1.symm, fun h => this.2 ?_⟩
          rw [C.sym]; exact h
        | succ i =>
          have := ih.mp h1 i j (by omega) (by simpa using hj) fun m a b => by simpa using hm (m + 1) (by omega) (by omega)
          simpa using this
    · intro h
      refine ⟨ih.mpr fun i j hij hj hm => ?_, fun t ht => ?_⟩
      · have := h (i + 1) (j + 1) (by omega) (by simpa using hj) fun m a b => by
          cases m with
          | zero => omega
          | succ m => simpa using hm m (by omega) (by omega)
        simpa using this
      · obtain ⟨j, a, b, d⟩ := fst_iff.mp ht
        have := h 0 (j + 1) (by omega) (by simpa using a) fun m p q => by
          cases m with
          | zero => omega
          | succ m =>
            have := d m (by omega)
            rw [← b, C.sym] at this
            simpa using this
        simp only [List.getD_cons_zero, List.getD_cons_succ, b] at this
        refine ⟨this.1.symm, fun h' => this.2 ?_⟩
        rw [C.sym]; exact h'
/-- a kind put in -/
theorem nfi_ins (C : CrOk cr) {f : Nat → Nat} {n p q k : Nat} (h : NFi cr f n) (hq : q ≤ p) (hp : p ≤ n) (hb : ∀ m, q ≤ m → m < n → cr (f m) k = true) (ha : 0 < q → cr (f (q - 1)) k = false ∧ f (q - 1) ≠ k) (h1 : ∀ m, q ≤ m → m < p → f m < k) (h2 : p < n → k < f p) :
    NFi cr (fun m => if m < p then f m else if m = p then k else f (m - 1)) (n + 1) := by
  intro i j hij hj hm
  have key : ∀ m, (fun m => if m < p then f m else if m = p then k else f (m - 1)) m = if m < p then f m else if m = p then k else f (m - 1) := fun _ => rfl
  simp only at hm ⊢
  by_cases hjp : j < p
  · rw [if_pos hjp] at hm
    rw [if_pos hjp, if_pos (show i < p by omega)]
    exact h i j hij (by omega) fun m a b => by
      have := hm m a b
      rwa [if_pos (show m < p by omega)] at this
  · by_cases hje : j = p
    · subst hje
      rw [if_neg (Nat.lt_irrefl _), if_pos rfl] at hm
      rw [if_neg (Nat.lt_irrefl _), if_pos rfl, if_pos hij]
      by_cases hiq : q ≤ i
      · have hc := hb i hiq (by omega)
        have hl := h1 i hiq hij
        exact ⟨by omega, fun _ => hl⟩
      · have hq0 : 0 < q := by omega
        obtain ⟨a1, a2⟩ := ha hq0
        by_cases hi : i = q - 1
        · subst hi
          exact ⟨a2, fun h' => by rw [a1] at h'; cases h'⟩
        · have := hm (q - 1) (by omega) (by omega)
          rw [if_pos (show q - 1 < j by omega), a1] at this
          cases this
    · rw [if_neg hjp, if_neg hje] at hm
      rw [if_neg hjp, if_neg hje]
      have hcj : cr (f (j - 1)) k = true := hb (j - 1) (by omega) (by omega)
      by_cases hip : i < p
      · rw [if_pos hip]
        refine h i (j - 1) (by omega) (by omega) fun m a b => ?_
        by_cases hmp : m < p
        · have := hm m a (by omega)
          rwa [if_pos hmp] at this
        · have := hm (m + 1) (by omega) (by omega)
          rwa [if_neg (by omega), if_neg (by omega), Nat.add_sub_cancel] at this
      · by_cases hie : i = p
        · subst hie
          rw [if_neg (Nat.lt_irrefl _), if_pos rfl]
          have hpn : i < n := by omega
          have hkp := h2 hpn
          have hlt : k < f (j - 1) := by
            by_cases hj1 : j - 1 = i
            · rw [hj1]; exact hkp
            · have hcc := hm (i + 1) (by omega) (by omega)
              rw [if_neg (by omega), if_neg (by omega), Nat.add_sub_cancel] at hcc
              have := (h i (j - 1) (by omega) (by omega) fun m a b => by
                have := hm (m + 1) (by omega) (by omega)
                rwa [if_neg (by omega), if_neg (by omega), Nat.add_sub_cancel] at this).2 hcc
              omega
          exact ⟨by omega, fun _ => hlt⟩
        · rw [if_neg hip, if_neg hie]
          refine h (i - 1) (j - 1) (by omega) (by omega) fun m a b => ?_
          have := hm (m + 1) (by omega) (by omega)
          rwa [if_neg (by omega), if_neg (by omega), Nat.add_sub_cancel] at this
/-- a kind taken out -/
theorem nfi_del (C : CrOk cr) {f : Nat → Nat} {n q : Nat} (h : NFi cr f (n + 1)) (hq : q ≤ n) (hb : ∀ m, q < m → m < n + 1 → cr (f m) (f q) = true) : NFi cr (fun m => if m < q then f m else f (m + 1)) n := by
  intro i j hij hj hm
  simp only at hm ⊢
  by_cases hjq : j < q
  · rw [if_pos hjq] at hm
    rw [if_pos hjq, if_pos (show i < q by omega)]
    exact h i j hij (by omega) fun m a b => by
      have := hm m a b
      rwa [if_pos (show m < q by omega)] at this
  · rw [if_neg hjq] at hm
    rw [if_neg hjq]
    by_cases hiq : i < q
    · rw [if_pos hiq]
      refine h i (j + 1) (by omega) (by omega) fun m a b => ?_
      by_cases hmq : m < q
      · have := hm m a (by omega)
        rwa [if_pos hmq] at this
      · by_cases hme : m = q
        · subst hme
          rw [C.sym]
          exact hb (j + 1) (by omega) (by omega)
        · have := hm (m - 1) (by omega) (by omega)
          rwa [if_neg (by omega), Nat.sub_add_cancel (by omega)] at this
    · rw [if_neg hiq]
      refine h (i + 1) (j + 1) (by omega) (by omega) fun m a b => ?_
      have := hm (m - 1) (by omega) (by omega)
      rwa [if_neg (by omega), Nat.sub_add_cancel (by omega)] at this
end
/-! ### plans -/
structure Pl where
  kinds : List Nat
  pairs : List (List Nat)
def Pl.cross (p : Pl) (k : Nat) : List Nat := p.kinds.filter fun o => decide ([k, o] ∈ p.pairs) || decide ([o, k] ∈ p.pairs)
structure Pl.Ok (p : Pl) : Prop where
  asc : p.kinds.Pairwise (· < ·)
  lo : ∀ k ∈ p.kinds, 97 ≤ k ∧ k < 123
  len : p.kinds.length ≤ 8
  two : ∀ s ∈ p.pairs, ∃ a b, s = [a, b] ∧ a < b ∧ a ∈ p.kinds ∧ b ∈ p.kinds
def crb (p : Pl) (a b : Nat) : Bool := decide (a ∈ p.cross b)
theorem mem_cross {p : Pl} (h : p.Ok) {a b : Nat} : a ∈ p.cross b ↔ [a, b] ∈ p.pairs ∨ [b, a] ∈ p.pairs := by
  unfold Pl.cross
  rw [List.mem_filter]
  simp only [Bool.or_eq_true, decide_eq_true_eq]
  constructor
  · rintro ⟨_, h | h⟩
    · exact .inr h
    · exact .inl h
  · intro q
    refine ⟨?_, q.symm⟩
    rcases q with q | q
    · obtain ⟨x, y, e, _, h1, h2⟩ := h.two _ q
      cases e; exact h1
    · obtain ⟨x, y, e, _, h1, h2⟩ := h.two _ q
      cases e; exact h2
theorem crb_ok {p : Pl} (h : p.Ok) : CrOk (crb p) where
  irr a := by
    unfold crb
    refine decide_eq_false fun q => ?_
    rcases (mem_cross h).mp q with q | q <;> (obtain ⟨x, y, e, l, _⟩ := h.two _ q; cases e; omega)
  sym a b := by
    unfold crb
    refine decide_eq_decide.mpr ?_
    rw [mem_cross h, mem_cross h]
    exact Or.comm
def down (cr name : List Nat) : Nat → Nat
  | 0 => 0
  | n + 1 => if name.getD n 0 ∈ cr then down cr name n else n + 1
def upl (name : List Nat) (n k : Nat) : Nat := n + ((name.drop n).takeWhile (· < k)).length
/-- the name behind a door -/
def stepN (cr name : List Nat) (k : Nat) : List Nat :=
  let n := down cr name name.length
  if 0 < n ∧ name.getD (n - 1) 0 = k then name.take (n - 1) ++ name.drop n
  else name.take (upl name n k) ++ [k] ++ name.drop (upl name n k)
theorem down_le (cr name : List Nat) : ∀ n, down cr name n ≤ n
  | 0 => Nat.le_refl _
  | n + 1 => by
    unfold down
    split
    · exact Nat.le_succ_of_le (down_le cr name n)
    · exact Nat.le_refl _
theorem down_at {cr name : List Nat} {n : Nat} (h : 0 < n → name.getD (n - 1) 0 ∉ cr) : down cr name n = n := by
  cases n with
  | zero => rfl
  | succ n => exact if_neg (h (Nat.succ_pos _))
theorem upl_le (name : List Nat) (n k : Nat) (h : n ≤ name.length) : upl name n k ≤ name.length := by
  have := (List.takeWhile_prefix (p := fun x => decide (x < k)) (l := name.drop n)).length_le
  rw [List.length_drop] at this
  unfold upl; omega
theorem upl_step {name : List Nat} {n k : Nat} (h : n < name.length) (hk : name.getD n 0 < k) : upl name n k = upl name (n + 1) k := by
  unfold upl
  rw [List.drop_eq_getElem_cons h, List.takeWhile_cons]
  have e : name.getD n 0 = name[n] := by simp [List.getD, h]
  rw [e] at hk
  simp [hk]; omega
theorem upl_stop {name : List Nat} {n k : Nat} (h : n < name.length → ¬ name.getD n 0 < k) : upl name n k = n := by
  unfold upl
  by_cases hn : n < name.length
  · rw [List.drop_eq_getElem_cons hn, List.takeWhile_cons]
    have e : name.getD n 0 = name[n] := by simp [List.getD, hn]
    have := h hn
    rw [e] at this
    simp [this]
  · rw [List.drop_eq_nil_of_le (by omega)]; rfl
theorem stepN_len (cr name : List Nat) (k : Nat) : (stepN cr name k).length ≤ name.length + 1 := by
  unfold stepN
  have h1 := down_le cr name name.length
  have h2 := upl_le name _ k h1
  dsimp only
  split <;> (simp; omega)
def joinN (p : Pl) (name way : List Nat) : List Nat := way.foldl (fun n k => stepN (p.cross k) n k) name
theorem joinN_len (p : Pl) : ∀ (way name : List Nat), (joinN p name way).length ≤ name.length + way.length
  | [], name => Nat.le_refl _
  | k :: way, name => by
    have h1 := joinN_len p way (stepN (p.cross k) name k)
    have h2 := stepN_len (p.cross k) name k
    show (joinN p (stepN (p.cross k) name k) way).length ≤ _
    rw [List.length_cons]; omega
theorem joinN_snoc (p : Pl) (name way : List Nat) (k : Nat) : joinN p name (way ++ [k]) = stepN (p.cross k) (joinN p name way) k := by
  unfold joinN; rw [List.foldl_append]; rfl

theorem down_in {cr name : List Nat} : ∀ {n m : Nat}, down cr name n ≤ m → m < n → name.getD m 0 ∈ cr
  | 0, _, _, h => absurd h (Nat.not_lt_zero _)
  | n + 1, m, h1, h2 => by
    unfold down at h1
    split at h1
    · rename_i hc
      by_cases e : m = n
      · subst e; exact hc
      · exact down_in h1 (by omega)
    · omega
theorem down_out {cr name : List Nat} : ∀ {n : Nat}, 0 < down cr name n → name.getD (down cr name n - 1) 0 ∉ cr
  | 0, h => absurd h (Nat.not_lt_zero _)
  | n + 1, h => by
    unfold down at h ⊢
    split at h
    · rename_i hc
      rw [if_pos hc]; exact down_out h
    · rename_i hc
      rw [if_neg hc]; simpa using hc
theorem upl_ge (name : List Nat) (n k : Nat) : n ≤ upl name n k := by unfold upl; omega
theorem takeWhile_lt {k : Nat} : ∀ {l : List Nat} {m : Nat}, m < (l.takeWhile (· < k)).length → l.getD m 0 < k
  | [], _, h => absurd h (by simp)
  | a :: l, m, h => by
    rw [List.takeWhile_cons] at h
    by_cases ha : a < k
    · rw [if_pos (decide_eq_true ha)] at h
      cases m with
      | zero => simpa using ha
      | succ m => simpa using takeWhile_lt (l := l) (m := m) (by simpa using h)
    · rw [if_neg (by simpa using ha)] at h
      exact absurd h (by simp)
theorem takeWhile_end {k : Nat} : ∀ {l : List Nat}, (l.takeWhile (· < k)).length < l.length → k ≤ l.getD (l.takeWhile (· < k)).length 0
  | [], h => absurd h (by simp)
  | a :: l, h => by
    rw [List.takeWhile_cons] at h ⊢
    by_cases ha : a < k
    · rw [if_pos (decide_eq_true ha)] at h ⊢
      simp only [List.length_cons, List.getD_cons_succ] at h ⊢
      exact takeWhile_end (by omega)
    · rw [if_neg (by simpa using ha)]
      simp; omega
theorem getD_drop (l : List Nat) (n m : Nat) : (l.drop n).getD m 0 = l.getD (n + m) 0 := by
  simp [List.getD_eq_getElem?_getD, List.getElem?_drop]
theorem upl_lt {name : List Nat} {n k m : Nat} (h1 : n ≤ m) (h2 : m < upl name n k) : name.getD m 0 < k := by
  unfold upl at h2
  have := takeWhile_lt (l := name.drop n) (k := k) (m := m - n) (by omega)
  rwa [getD_drop, show n + (m - n) = m by omega] at this
theorem upl_end {name : List Nat} {n k : Nat} (h : upl name n k < name.length) : k ≤ name.getD (upl name n k) 0 := by
  unfold upl at h ⊢
  have := takeWhile_end (l := name.drop n) (k := k) (by rw [List.length_drop]; omega)
  rwa [getD_drop] at this
theorem getD_ins (l : List Nat) (p k m : Nat) (hp : p ≤ l.length) : (l.take p ++ [k] ++ l.drop p).getD m 0 = if m < p then l.getD m 0 else if m = p then k else l.getD (m - 1) 0 := by
  simp only [List.getD_eq_getElem?_getD]
  by_cases h : m < p
  · rw [if_pos h, List.append_assoc, List.getElem?_append_left (by rw [List.length_take]; omega), List.getElem?_take_of_lt h]
  · rw [if_neg h, List.append_assoc, List.getElem?_append_right (by rw [List.length_take]; omega), List.length_take, Nat.min_eq_left hp]
    by_cases h2 : m = p
    · subst h2; simp
    · rw [if_neg h2]
      obtain ⟨r, hr⟩ : ∃ r, m - p = r + 1 := ⟨m - p - 1, by omega⟩
      rw [hr, List.cons_append, List.nil_append, List.getElem?_cons_succ, List.getElem?_drop, show p + r = m - 1 by omega]
theorem getD_del (l : List Nat) (q m : Nat) (hq : q < l.length) : (l.take q ++ l.drop (q + 1)).getD m 0 = if m < q then l.getD m 0 else l.getD (m + 1) 0 := by
  simp only [List.getD_eq_getElem?_getD]
  by_cases h : m < q
  · rw [if_pos h, List.getElem?_append_left (by rw [List.length_take]; omega), List.getElem?_take_of_lt h]
  · rw [if_neg h, List.getElem?_append_right (by rw [List.length_take]; omega), List.length_take, Nat.min_eq_left (by omega), List.getElem?_drop, show q + 1 + (m - q) = m + 1 by omega]
theorem split_at {l : List Nat} {q : Nat} (h : q < l.length) : l = l.take q ++ l.getD q 0 :: l.drop (q + 1) := by
  have e : l.getD q 0 = l[q] := by simp [List.getD_eq_getElem?_getD, h]
  rw [e, ← List.drop_eq_getElem_cons h, List.take_append_drop]
theorem mem_drop {l : List Nat} {n c : Nat} (h : c ∈ l.drop n) : ∃ m, n ≤ m ∧ m < l.length ∧ l.getD m 0 = c := by
  obtain ⟨i, hi, e⟩ := List.mem_iff_getElem.mp h
  rw [List.length_drop] at hi
  refine ⟨n + i, by omega, by omega, ?_⟩
  rw [← getD_drop]
  simp [List.getD_eq_getElem?_getD, hi, e]
theorem mem_drop' {l : List Nat} {n m c : Nat} (h : c ∈ (l.take m).drop n) : ∃ i, n ≤ i ∧ i < m ∧ i < l.length ∧ l.getD i 0 = c := by
  obtain ⟨i, h1, h2, h3⟩ := mem_drop h
  rw [List.length_take] at h2
  refine ⟨i, h1, by omega, by omega, ?_⟩
  rw [← h3, List.getD_eq_getElem?_getD, List.getD_eq_getElem?_getD, List.getElem?_take_of_lt (by omega)]
section
variable {p : Pl} (h : p.Ok)
theorem stepN_nf (h : p.Ok) {name : List Nat} {k : Nat} (hn : NF (crb p) name) : NF (crb p) (stepN (p.cross k) name k) := by
  have C := crb_ok h
  have hi := (nf_iff C).mp hn
  have d1 := down_le (p.cross k) name name.length
  have cin : ∀ m, down (p.cross k) name name.length ≤ m → m < name.length → crb p (name.getD m 0) k = true := fun m a b => decide_eq_true (down_in a b)
  unfold stepN
  dsimp only
  by_cases hd : 0 < down (p.cross k) name name.length ∧ name.getD (down (p.cross k) name name.length - 1) 0 = k
  · rw [if_pos hd]
    generalize hq : down (p.cross k) name name.length = n at *
    obtain ⟨q, rfl⟩ : ∃ q, n = q + 1 := ⟨n - 1, by omega⟩
    rw [Nat.add_sub_cancel] at *
    rw [nf_iff C]
    have e : (fun i => (name.take q ++ name.drop (q + 1)).getD i 0) = fun m => if m < q then name.getD m 0 else name.getD (m + 1) 0 := by
      funext m; exact getD_del _ _ _ (by omega)
    rw [e]
    have el : (name.take q ++ name.drop (q + 1)).length = name.length - 1 := by simp; omega
    rw [el]
    refine nfi_del C (n := name.length - 1) (f := fun i => name.getD i 0) (by rwa [Nat.sub_add_cancel (by omega)]) (by omega) fun m a b => ?_
    show crb p (name.getD m 0) (name.getD q 0) = true
    rw [hd.2]; exact cin m (by omega) (by omega)
  · rw [if_neg hd]
    have u1 := upl_le name (down (p.cross k) name name.length) k d1
    have u2 := upl_ge name (down (p.cross k) name name.length) k
    rw [nf_iff C]
    have e : (fun i => (name.take (upl name (down (p.cross k) name name.length) k) ++ [k] ++ name.drop (upl name (down (p.cross k) name name.length) k)).getD i 0) = fun m => if m < upl name (down (p.cross k) name name.length) k then name.getD m 0 else if m = upl name (down (p.cross k) name name.length) k then k else name.getD (m - 1) 0 := by
      funext m; exact getD_ins _ _ _ _ u1
    rw [e]
    have el : (name.take (upl name (down (p.cross k) name name.length) k) ++ [k] ++ name.drop (upl name (down (p.cross k) name name.length) k)).length = name.length + 1 := by simp; omega
    rw [el]
    refine nfi_ins C (f := fun i => name.getD i 0) hi u2 u1 (fun m a b => cin m a b) (fun h0 => ⟨decide_eq_false (down_out h0), fun e => hd ⟨h0, e⟩⟩) (fun m a b => upl_lt a b) fun hl => ?_
    have hk := upl_end hl
    have hc := cin _ u2 hl
    have hne : name.getD (upl name (down (p.cross k) name name.length) k) 0 ≠ k := fun e => by
      rw [e, C.irr] at hc; cases hc
    show k < name.getD (upl name (down (p.cross k) name name.length) k) 0
    omega
theorem stepN_vec (h : p.Ok) (name : List Nat) (k : Nat) (x : Nat → Int) : fold (cr := crb p) (stepN (p.cross k) name k) x = fold (cr := crb p) (name ++ [k]) x := by
  have C := crb_ok h
  have d1 := down_le (p.cross k) name name.length
  have cin : ∀ m, down (p.cross k) name name.length ≤ m → m < name.length → crb p (name.getD m 0) k = true := fun m a b => decide_eq_true (down_in a b)
  unfold stepN
  dsimp only
  by_cases hd : 0 < down (p.cross k) name name.length ∧ name.getD (down (p.cross k) name name.length - 1) 0 = k
  · rw [if_pos hd]
    generalize hq : down (p.cross k) name name.length = n at *
    obtain ⟨q, rfl⟩ : ∃ q, n = q + 1 := ⟨n - 1, by omega⟩
    rw [Nat.add_sub_cancel] at *
    have e : name ++ [k] = name.take q ++ (k :: (name.drop (q + 1) ++ [k])) := by
      have := split_at (l := name) (q := q) (by omega)
      rw [hd.2] at this
      calc name ++ [k] = (name.take q ++ k :: name.drop (q + 1)) ++ [k] := by rw [← this]
        _ = _ := by simp
    rw [e]
    refine (vec_out C (fun c hc => ?_) x).symm
    obtain ⟨m, a, b, rfl⟩ := mem_drop hc
    exact cin m a b
  · rw [if_neg hd]
    have u2 := upl_ge name (down (p.cross k) name name.length) k
    generalize upl name (down (p.cross k) name name.length) k = u at *
    have e : name ++ [k] = name.take u ++ (name.drop u ++ [k]) := by rw [← List.append_assoc, List.take_append_drop]
    rw [e, List.append_assoc]
    refine (vec_past C (fun c hc => ?_) x).symm
    obtain ⟨m, a, b, rfl⟩ := mem_drop hc
    exact cin m (by omega) b
theorem joinN_fold (h : p.Ok) : ∀ (way name : List Nat) (x : Nat → Int), fold (cr := crb p) (joinN p name way) x = fold (cr := crb p) (name ++ way) x
  | [], name, x => by rw [List.append_nil]; rfl
  | k :: way, name, x => by
    show fold (cr := crb p) (joinN p (stepN (p.cross k) name k) way) x = _
    rw [joinN_fold h way, fold_app, stepN_vec h, ← fold_app, List.append_assoc]; rfl
theorem joinN_vec (h : p.Ok) (way : List Nat) : vec (crb p) (joinN p [] way) = vec (crb p) way := by
  rw [vec_fold, vec_fold, joinN_fold h]; rfl
theorem joinN_nf (h : p.Ok) : ∀ (way : List Nat) {name : List Nat}, NF (crb p) name → NF (crb p) (joinN p name way)
  | [], _, hn => hn
  | k :: way, _, hn => joinN_nf h way (stepN_nf h hn)
theorem stepN_in {p : Pl} {name : List Nat} {k : Nat} (hn : ∀ c ∈ name, c ∈ p.kinds) (hk : k ∈ p.kinds) : ∀ c ∈ stepN (p.cross k) name k, c ∈ p.kinds := by
  intro c hc
  unfold stepN at hc
  dsimp only at hc
  split at hc
  · rcases List.mem_append.mp hc with q | q
    · exact hn c (List.mem_of_mem_take q)
    · exact hn c (List.mem_of_mem_drop q)
  · rcases List.mem_append.mp hc with q | q
    · rcases List.mem_append.mp q with q | q
      · exact hn c (List.mem_of_mem_take q)
      · rw [List.mem_singleton.mp q]; exact hk
    · exact hn c (List.mem_of_mem_drop q)
theorem joinN_in {p : Pl} : ∀ {way name : List Nat}, (∀ c ∈ name, c ∈ p.kinds) → (∀ c ∈ way, c ∈ p.kinds) → ∀ c ∈ joinN p name way, c ∈ p.kinds
  | [], _, hn, _ => hn
  | k :: way, _, hn, hw => joinN_in (way := way) (stepN_in hn (hw k (List.mem_cons_self ..))) fun c hc => hw c (List.mem_cons_of_mem _ hc)
/-! the law's way to the name: by the vector -/
def nearK (p : Pl) (x : Nat → Int) : List Nat := p.kinds.filter fun k => decide (x k < 0)
theorem near_nf (h : p.Ok) {w : List Nat} (hw : NF (crb p) w) (hk : ∀ c ∈ w, c ∈ p.kinds) : (nearK p (vec (crb p) w)).head? = w.head? := by
  have C := crb_ok h
  have hs := (vec_sign C hw).1
  cases w with
  | nil =>
    have : nearK p (vec (crb p) []) = [] := by
      unfold nearK
      rw [List.filter_eq_nil_iff]
      intro a _
      simp [vec]
    rw [this]
  | cons s w =>
    have hneg : ∀ t, vec (crb p) (s :: w) t < 0 ↔ fst (crb p) (s :: w) t := fun t => ⟨fun q => by
      by_cases hf : fst (crb p) (s :: w) t
      · exact hf
      · have := (hs t).2 hf; omega, (hs t).1⟩
    have hmin : ∀ t, fst (crb p) (s :: w) t → t = s ∨ s < t := fun t ht => by
      rcases ht with e | ⟨e1, e2⟩
      · exact .inl e
      · exact .inr ((hw.2 t e2).2 e1)
    have hsm : s ∈ nearK p (vec (crb p) (s :: w)) := List.mem_filter.mpr ⟨hk s (List.mem_cons_self ..), decide_eq_true ((hneg s).mpr (.inl rfl))⟩
    have hp : (nearK p (vec (crb p) (s :: w))).Pairwise (· < ·) := h.asc.filter _
    have hall : ∀ t ∈ nearK p (vec (crb p) (s :: w)), t = s ∨ s < t := fun t ht => hmin t ((hneg t).mp (of_decide_eq_true (List.mem_filter.mp ht).2))
    generalize nearK p (vec (crb p) (s :: w)) = l at *
    cases l with
    | nil => cases hsm
    | cons a r =>
      show some a = some s
      rcases hall a (List.mem_cons_self ..) with e | e
      · rw [e]
      · rcases List.mem_cons.mp hsm with e2 | e2
        · rw [e2]
        · have := List.rel_of_pairwise_cons hp e2; omega
theorem vec_next {p : Pl} (s : Nat) (w : List Nat) : act (crb p) (vec (crb p) (s :: w)) s = vec (crb p) w := act_act _ _
end

/-! ### plans made -/
abbrev letters : List Nat := [97, 98, 99, 100, 101, 102, 103, 104, 105, 106, 107, 108, 109, 110, 111, 112, 113, 114, 115, 116, 117, 118, 119, 120, 121, 122]
def ascN (l : List Nat) : List Nat := letters.filter fun k => decide (k ∈ l)
def pairsN (f : List (List Nat)) : List (List Nat) := letters.flatMap fun a => (letters.filter fun b => decide ([a] ++ [b] ∈ f)).map fun b => [a] ++ [b]
def mkPl (kinds : List Nat) (cr : List (List Nat)) : Pl := ⟨ascN kinds, pairsN (cr.map ascN)⟩
theorem letters_asc : letters.Pairwise (· < ·) := by decide
theorem letters_lo : ∀ k ∈ letters, 97 ≤ k ∧ k < 123 := by decide
theorem mem_letters {k : Nat} (h : 97 ≤ k ∧ k < 123) : k ∈ letters := by
  obtain ⟨a, b⟩ := h
  have : ∀ j, j < 26 → j + 97 ∈ letters := by decide
  have := this (k - 97) (by omega)
  rwa [Nat.sub_add_cancel a] at this
theorem mem_ascN {l : List Nat} {k : Nat} : k ∈ ascN l ↔ k ∈ letters ∧ k ∈ l := by
  unfold ascN; rw [List.mem_filter, decide_eq_true_eq]
theorem ascN_congr {l l' : List Nat} (h : ∀ k, k ∈ l ↔ k ∈ l') : ascN l = ascN l' := by
  unfold ascN
  exact List.filter_congr fun k _ => decide_eq_decide.mpr (h k)
theorem ascN_asc (l : List Nat) : (ascN l).Pairwise (· < ·) := letters_asc.filter _
theorem asc_ext : ∀ {l l' : List Nat}, l.Pairwise (· < ·) → l'.Pairwise (· < ·) → (∀ k, k ∈ l ↔ k ∈ l') → l = l'
  | [], [], _, _, _ => rfl
  | [], b :: l', _, _, h => by have := (h b).mpr (List.mem_cons_self ..); cases this
  | a :: l, [], _, _, h => by have := (h a).mp (List.mem_cons_self ..); cases this
  | a :: l, b :: l', h1, h2, h => by
    have e : a = b := by
      rcases List.mem_cons.mp ((h a).mp (List.mem_cons_self ..)) with q | q
      · exact q
      · have r1 := List.rel_of_pairwise_cons h2 q
        rcases List.mem_cons.mp ((h b).mpr (List.mem_cons_self ..)) with q2 | q2
        · exact q2.symm
        · have r2 := List.rel_of_pairwise_cons h1 q2; omega
    subst e
    rw [asc_ext (List.pairwise_cons.mp h1).2 (List.pairwise_cons.mp h2).2 fun k => ⟨fun hk => ?_, fun hk => ?_⟩]
    · rcases List.mem_cons.mp ((h k).mp (List.mem_cons_of_mem _ hk)) with q | q
      · have := List.rel_of_pairwise_cons h1 hk; omega
      · exact q
    · rcases List.mem_cons.mp ((h k).mpr (List.mem_cons_of_mem _ hk)) with q | q
      · have := List.rel_of_pairwise_cons h2 hk; omega
      · exact q
theorem ascN_self {l : List Nat} (h : l.Pairwise (· < ·)) (hl : ∀ k ∈ l, k ∈ letters) : ascN l = l :=
  asc_ext (ascN_asc l) h fun k => by rw [mem_ascN]; exact ⟨fun q => q.2, fun q => ⟨hl k q, q⟩⟩
theorem mem_pairsN {f : List (List Nat)} {s : List Nat} : s ∈ pairsN f ↔ ∃ a b, s = [a, b] ∧ a ∈ letters ∧ b ∈ letters ∧ [a, b] ∈ f := by
  unfold pairsN
  simp only [List.mem_flatMap, List.mem_map, List.mem_filter, decide_eq_true_eq, List.cons_append, List.nil_append]
  constructor
  · rintro ⟨a, ha, b, ⟨hb, hf⟩, rfl⟩
    exact ⟨a, b, rfl, ha, hb, hf⟩
  · rintro ⟨a, b, rfl, ha, hb, hf⟩
    exact ⟨a, ha, b, ⟨hb, hf⟩, rfl⟩
theorem pairsN_congr {f f' : List (List Nat)} (h : ∀ s, s ∈ f ↔ s ∈ f') : pairsN f = pairsN f' := by
  unfold pairsN
  congr 1
  funext a
  congr 1
  exact List.filter_congr fun b _ => decide_eq_decide.mpr (h _)
/-- what a plan may be made of -/
structure Made (kinds : List Nat) (cr : List (List Nat)) : Prop where
  lo : ∀ k ∈ kinds, k ∈ letters
  two : ∀ s ∈ cr, ∃ a b, s = [a, b] ∧ a ≠ b ∧ a ∈ kinds ∧ b ∈ kinds
  len : (ascN kinds).length ≤ 8
theorem mkPl_ok {kinds : List Nat} {cr : List (List Nat)} (h : Made kinds cr) : (mkPl kinds cr).Ok where
  asc := ascN_asc kinds
  lo k hk := letters_lo k (mem_ascN.mp hk).1
  len := h.len
  two s hs := by
    obtain ⟨a, b, rfl, ha, hb, hf⟩ := mem_pairsN.mp hs
    obtain ⟨c, hc, e⟩ := List.mem_map.mp hf
    obtain ⟨x, y, rfl, hxy, hx, hy⟩ := h.two c hc
    have p := ascN_asc [x, y]
    rw [e] at p
    have ha2 : a ∈ ascN [x, y] := by rw [e]; simp
    have hb2 : b ∈ ascN [x, y] := by rw [e]; simp
    have sub : ∀ k, k ∈ ascN [x, y] → k ∈ ascN kinds := fun k hk => by
      obtain ⟨h1, h2⟩ := mem_ascN.mp hk
      refine mem_ascN.mpr ⟨h1, ?_⟩
      rcases List.mem_cons.mp h2 with q | q
      · rw [q]; exact hx
      · rw [List.mem_singleton.mp q]; exact hy
    refine ⟨a, b, rfl, ?_, sub a ha2, sub b hb2⟩
    simpa using p
theorem mkPl_rev (kinds : List Nat) (cr : List (List Nat)) : mkPl kinds.reverse (cr.reverse.map List.reverse) = mkPl kinds cr := by
  unfold mkPl
  rw [ascN_congr (l := kinds.reverse) (l' := kinds) fun k => by simp]
  congr 1
  refine pairsN_congr fun s => ?_
  simp only [List.mem_map, List.mem_reverse]
  constructor
  · rintro ⟨_, ⟨c, hc, rfl⟩, rfl⟩
    exact ⟨c, hc, ascN_congr fun k => by simp⟩
  · rintro ⟨c, hc, rfl⟩
    exact ⟨c.reverse, ⟨c, hc, rfl⟩, ascN_congr fun k => by simp⟩
/-- kinds and pairs as they are told: ascending -/
structure Told (kinds : List Nat) (cr : List (List Nat)) : Prop where
  asc : kinds.Pairwise (· < ·)
  lo : ∀ k ∈ kinds, k ∈ letters
  len : kinds.length ≤ 8
  two : ∀ s ∈ cr, ∃ a b, s = [a, b] ∧ a < b ∧ a ∈ kinds ∧ b ∈ kinds
theorem Told.made {kinds : List Nat} {cr : List (List Nat)} (h : Told kinds cr) : Made kinds cr where
  lo := h.lo
  two s hs := by obtain ⟨a, b, e, l, r⟩ := h.two s hs; exact ⟨a, b, e, by omega, r⟩
  len := by rw [ascN_self h.asc h.lo]; exact h.len
theorem Told.madeR {kinds : List Nat} {cr : List (List Nat)} (h : Told kinds cr) : Made kinds.reverse (cr.reverse.map List.reverse) where
  lo k hk := h.lo k (List.mem_reverse.mp hk)
  two s hs := by
    obtain ⟨c, hc, rfl⟩ := List.mem_map.mp hs
    obtain ⟨a, b, rfl, l, r1, r2⟩ := h.two c (List.mem_reverse.mp hc)
    exact ⟨b, a, rfl, by omega, List.mem_reverse.mpr r2, List.mem_reverse.mpr r1⟩
  len := by rw [ascN_congr (l' := kinds) fun k => by simp, ascN_self h.asc h.lo]; exact h.len
theorem Told.kinds {kinds : List Nat} {cr : List (List Nat)} (h : Told kinds cr) : (mkPl kinds cr).kinds = kinds := ascN_self h.asc h.lo
theorem Told.pair {kinds : List Nat} {cr : List (List Nat)} (h : Told kinds cr) {a b : Nat} : [a, b] ∈ (mkPl kinds cr).pairs ↔ [a, b] ∈ cr := by
  have key : ∀ c ∈ cr, ascN c = c := fun c hc => by
    obtain ⟨x, y, rfl, l, r1, r2⟩ := h.two c hc
    refine ascN_self (by simpa using l) fun k hk => ?_
    rcases List.mem_cons.mp hk with q | q
    · rw [q]; exact h.lo x r1
    · rw [List.mem_singleton.mp q]; exact h.lo y r2
  show [a, b] ∈ pairsN (cr.map ascN) ↔ _
  rw [mem_pairsN]
  constructor
  · rintro ⟨a', b', e, _, _, hf⟩
    rw [← e] at hf
    obtain ⟨c, hc, e⟩ := List.mem_map.mp hf
    rw [key c hc] at e
    rwa [← e]
  · intro hc
    obtain ⟨x, y, e, l, r1, r2⟩ := h.two _ hc
    cases e
    exact ⟨a, b, rfl, h.lo a r1, h.lo b r2, List.mem_map.mpr ⟨_, hc, key _ hc⟩⟩
theorem Told.cross {kinds : List Nat} {cr : List (List Nat)} (h : Told kinds cr) {a b : Nat} : crb (mkPl kinds cr) a b = (decide ([a, b] ∈ cr) || decide ([b, a] ∈ cr)) := by
  unfold crb
  rw [Bool.eq_iff_iff, decide_eq_true_eq, mem_cross (mkPl_ok h.made), h.pair, h.pair]
  simp

/-! ### tables of places -/
def tb (p : Pl) (rows : List (List Nat)) (k c : Nat) : Nat := (rows.getD (p.kinds.idxOf k) []).getD c 0
structure TabOk (p : Pl) (rows : List (List Nat)) (n : Nat) : Prop where
  len : rows.length = p.kinds.length
  pos : 0 < n
  row : ∀ r ∈ rows, r.length = n ∧ ∀ c, c < n → r.getD c 0 < n ∧ r.getD (r.getD c 0) 0 = c
  com : ∀ a b, [a, b] ∈ p.pairs → ∀ c, c < n → tb p rows b (tb p rows a c) = tb p rows a (tb p rows b c)
def visit (rows : List (List Nat)) (f : List Nat) (i : Nat) : List Nat := rows.foldl (fun g r => if r.getD (f.getD i 0) 0 ∈ g then g else g ++ [r.getD (f.getD i 0) 0]) f
def bfs (rows : List (List Nat)) : Nat → Nat → List Nat → List Nat
  | 0, _, f => f
  | m + 1, i, f => if i < f.length then bfs rows m (i + 1) (visit rows f i) else f
def addN (c : Nat) (g : List Nat) (r : List Nat) : List Nat := if r.getD c 0 ∈ g then g else g ++ [r.getD c 0]
theorem visit_eq (rows : List (List Nat)) (f : List Nat) (i : Nat) : visit rows f i = rows.foldl (addN (f.getD i 0)) f := rfl
theorem addN_pre (c : Nat) (g r : List Nat) : g <+: addN c g r := by
  unfold addN; split
  · exact List.prefix_refl _
  · exact List.prefix_append ..
theorem foldN_pre (c : Nat) : ∀ (rows : List (List Nat)) (g : List Nat), g <+: rows.foldl (addN c) g
  | [], g => List.prefix_refl _
  | r :: rows, g => (addN_pre c g r).trans (foldN_pre c rows _)
theorem foldN_in (c : Nat) : ∀ {rows : List (List Nat)} {g : List Nat}, ∀ r ∈ rows, r.getD c 0 ∈ rows.foldl (addN c) g
  | r :: rows, g, q, hq => by
    rcases List.mem_cons.mp hq with e | e
    · subst e
      refine (foldN_pre c rows (addN c g q)).subset ?_
      unfold addN; split
      · assumption
      · simp
    · exact foldN_in c (rows := rows) q e
theorem foldN_mem (c : Nat) : ∀ {rows : List (List Nat)} {g : List Nat} {x : Nat}, x ∈ rows.foldl (addN c) g → x ∈ g ∨ ∃ r ∈ rows, x = r.getD c 0
  | [], g, x, h => .inl h
  | r :: rows, g, x, h => by
    rcases foldN_mem c (rows := rows) (g := addN c g r) h with q | ⟨r', h1, h2⟩
    · unfold addN at q; split at q
      · exact .inl q
      · rcases List.mem_append.mp q with q | q
        · exact .inl q
        · exact .inr ⟨r, List.mem_cons_self .., List.mem_singleton.mp q⟩
    · exact .inr ⟨r', List.mem_cons_of_mem _ h1, h2⟩
theorem foldN_nodup (c : Nat) : ∀ {rows : List (List Nat)} {g : List Nat}, g.Nodup → (rows.foldl (addN c) g).Nodup
  | [], _, h => h
  | r :: rows, g, h => by
    refine foldN_nodup c (rows := rows) ?_
    unfold addN; split
    · exact h
    · rename_i hn
      rw [List.nodup_append]
      exact ⟨h, by simp, fun a ha b hb => by rw [List.mem_singleton.mp hb]; exact fun e => hn (e ▸ ha)⟩
structure BInv (rows : List (List Nat)) (n i : Nat) (f : List Nat) : Prop where
  nd : f.Nodup
  lt : ∀ x ∈ f, x < n
  le : i ≤ f.length
  cl : ∀ j, j < i → ∀ r ∈ rows, r.getD (f.getD j 0) 0 ∈ f
theorem getD_pre {f g : List Nat} (h : f <+: g) {j : Nat} (hj : j < f.length) : g.getD j 0 = f.getD j 0 := by
  obtain ⟨t, rfl⟩ := h
  simp [List.getD_eq_getElem?_getD, List.getElem?_append_left hj]
theorem getD_memD {f : List Nat} {j : Nat} (hj : j < f.length) : f.getD j 0 ∈ f := by
  rw [List.getD_eq_getElem?_getD, List.getElem?_eq_getElem hj]
  exact List.getElem_mem hj
theorem BInv.step {rows : List (List Nat)} {n i : Nat} {f : List Nat} (h : BInv rows n i f) (hi : i < f.length) (hr : ∀ r ∈ rows, ∀ c, c < n → r.getD c 0 < n) : BInv rows n (i + 1) (visit rows f i) where
  nd := foldN_nodup _ h.nd
  lt x hx := by
    rcases foldN_mem _ hx with q | ⟨r, h1, rfl⟩
    · exact h.lt x q
    · exact hr r h1 _ (h.lt _ (getD_memD hi))
  le := by have := (foldN_pre (f.getD i 0) rows f).length_le; rw [visit_eq]; omega
  cl j hj r hr' := by
    have hp := foldN_pre (f.getD i 0) rows f
    rw [visit_eq, getD_pre hp (by omega)]
    by_cases e : j = i
    · subst e; exact foldN_in _ r hr'
    · exact hp.subset (h.cl j (by omega) r hr')
theorem bfs_pre (rows : List (List Nat)) : ∀ (m i : Nat) (f : List Nat), f <+: bfs rows m i f
  | 0, _, f => List.prefix_refl _
  | m + 1, i, f => by
    unfold bfs; split
    · exact (foldN_pre _ rows f).trans (bfs_pre rows m (i + 1) _)
    · exact List.prefix_refl _
theorem BInv.len {rows : List (List Nat)} {n i : Nat} {f : List Nat} (h : BInv rows n i f) : f.length ≤ n := by
  have := len_sub (l := f) (l' := List.range n) h.nd fun a ha => List.mem_range.mpr (h.lt a ha)
  rwa [List.length_range] at this
theorem bfs_inv {rows : List (List Nat)} {n : Nat} (hr : ∀ r ∈ rows, ∀ c, c < n → r.getD c 0 < n) : ∀ {m i : Nat} {f : List Nat}, n < i + m → BInv rows n i f → BInv rows n (bfs rows m i f).length (bfs rows m i f)
  | 0, i, f, hm, h => by have := h.len; have := h.le; exact absurd hm (by omega)
  | m + 1, i, f, hm, h => by
    unfold bfs; split
    · rename_i hi
      exact bfs_inv hr (by omega) (h.step hi hr)
    · rename_i hi
      have e : i = f.length := by have := h.le; omega
      rw [← e]; exact h
/-- the places that are led to from one -/
def placesN (rows : List (List Nat)) (n c : Nat) : List Nat := bfs rows (n + 1) 0 [c]
structure Closd (rows : List (List Nat)) (n : Nat) (f : List Nat) : Prop where
  nd : f.Nodup
  lt : ∀ x ∈ f, x < n
  cl : ∀ x ∈ f, ∀ r ∈ rows, r.getD x 0 ∈ f
theorem idx_getD {f : List Nat} {x : Nat} (h : x ∈ f) : f.getD (f.idxOf x) 0 = x := by
  have h1 := List.idxOf_lt_length_iff.mpr h
  rw [List.getD_eq_getElem?_getD, List.getElem?_eq_getElem h1]
  exact List.getElem_idxOf h1
theorem getD_idx {f : List Nat} (hn : f.Nodup) {i : Nat} (hi : i < f.length) : f.idxOf (f.getD i 0) = i := by
  have h1 := getD_memD hi
  have h2 := List.idxOf_lt_length_iff.mpr h1
  have h3 := List.getElem_idxOf h2
  have e : f.getD i 0 = f[i] := by simp [List.getD_eq_getElem?_getD, hi]
  exact (List.getElem_inj hn).mp (h3.trans e)
theorem placesN_ok {p : Pl} {rows : List (List Nat)} {n c : Nat} (h : TabOk p rows n) (hc : c < n) : Closd rows n (placesN rows n c) ∧ (placesN rows n c).getD 0 0 = c ∧ 0 < (placesN rows n c).length ∧ c ∈ placesN rows n c := by
  have hr : ∀ r ∈ rows, ∀ c, c < n → r.getD c 0 < n := fun r hr c hc => ((h.row r hr).2 c hc).1
  have hb : BInv rows n 0 [c] := ⟨by simp, fun x hx => by rw [List.mem_singleton.mp hx]; exact hc, by simp, fun j hj => absurd hj (Nat.not_lt_zero _)⟩
  have q := bfs_inv hr (m := n + 1) (by omega) hb
  have hp := bfs_pre rows (n + 1) 0 [c]
  refine ⟨⟨q.nd, q.lt, fun x hx r hr => ?_⟩, ?_, ?_, hp.subset (by simp)⟩
  · have := q.cl ((placesN rows n c).idxOf x) (List.idxOf_lt_length_iff.mpr hx) r hr
    rwa [show (bfs rows (n + 1) 0 [c]).getD ((placesN rows n c).idxOf x) 0 = x from idx_getD hx] at this
  · exact getD_pre hp (by simp)
  · have := hp.length_le; exact this
def numR (rows : List (List Nat)) (f : List Nat) : List (List Nat) := rows.map fun r => f.map fun c => f.idxOf (r.getD c 0)
theorem map_getD {α : Type} (l : List α) (g : α → Nat) (i : Nat) (d : α) (hi : i < l.length) : (l.map g).getD i 0 = g (l.getD i d) := by
  simp [List.getD_eq_getElem?_getD, hi]
theorem numR_getD {rows : List (List Nat)} {f : List Nat} {j : Nat} (hj : j < rows.length) {c : Nat} (hc : c < f.length) : ((numR rows f).getD j []).getD c 0 = f.idxOf ((rows.getD j []).getD (f.getD c 0) 0) := by
  have e : (numR rows f).getD j [] = f.map fun c => f.idxOf ((rows.getD j []).getD c 0) := by
    unfold numR
    simp [List.getD_eq_getElem?_getD, hj]
  rw [e, map_getD f _ c 0 hc]
theorem getD_memL {rows : List (List Nat)} {j : Nat} (hj : j < rows.length) : rows.getD j [] ∈ rows := by
  rw [List.getD_eq_getElem?_getD, List.getElem?_eq_getElem hj]; exact List.getElem_mem hj
theorem Pl.Ok.idx {p : Pl} (_ : p.Ok) {k : Nat} (hk : k ∈ p.kinds) : p.kinds.idxOf k < p.kinds.length := List.idxOf_lt_length_iff.mpr hk
theorem TabOk.num {p : Pl} {rows : List (List Nat)} {n : Nat} {f : List Nat} (hp : p.Ok) (h : TabOk p rows n) (hf : Closd rows n f) (h0 : 0 < f.length) : TabOk p (numR rows f) f.length where
  len := by unfold numR; rw [List.length_map]; exact h.len
  pos := h0
  row r hr := by
    obtain ⟨s, hs, rfl⟩ := List.mem_map.mp hr
    refine ⟨List.length_map _, fun c hc => ?_⟩
    have hm := getD_memD hc
    have h1 := hf.cl _ hm s hs
    have h2 := List.idxOf_lt_length_iff.mpr h1
    have e : (f.map fun c => f.idxOf (s.getD c 0)).getD c 0 = f.idxOf (s.getD (f.getD c 0) 0) := map_getD f _ c 0 hc
    refine ⟨by rw [e]; exact h2, ?_⟩
    rw [e, map_getD f _ _ 0 h2, idx_getD h1, ((h.row s hs).2 _ (hf.lt _ hm)).2]
    exact getD_idx hf.nd hc
  com a b hab c hc := by
    obtain ⟨x, y, e, _, hx, hy⟩ := hp.two _ hab
    cases e
    have ja : p.kinds.idxOf a < rows.length := by rw [h.len]; exact hp.idx hx
    have jb : p.kinds.idxOf b < rows.length := by rw [h.len]; exact hp.idx hy
    have hm := getD_memD hc
    have key : ∀ k, k ∈ p.kinds → ∀ c, c < f.length → tb p (numR rows f) k c = f.idxOf (tb p rows k (f.getD c 0)) ∧ tb p rows k (f.getD c 0) ∈ f := fun k hk c hc => by
      have jk : p.kinds.idxOf k < rows.length := by rw [h.len]; exact hp.idx hk
      exact ⟨numR_getD jk hc, hf.cl _ (getD_memD hc) _ (getD_memL jk)⟩
    obtain ⟨a1, a2⟩ := key a hx c hc
    obtain ⟨b1, b2⟩ := key b hy c hc
    rw [a1, b1, (key b hy _ (List.idxOf_lt_length_iff.mpr a2)).1, (key a hx _ (List.idxOf_lt_length_iff.mpr b2)).1, idx_getD a2, idx_getD b2, h.com a b hab _ (hf.lt _ hm)]
/-- the places of the numbered tables are found in their order -/
theorem num_visit {rows : List (List Nat)} {n : Nat} {f : List Nat} (hf : Closd rows n f) {c : Nat} (hc : c ∈ f) : ∀ {rs : List (List Nat)} {g : List Nat}, (∀ r ∈ rs, r ∈ rows) → (∀ x ∈ g, x ∈ f) → (numR rs f).foldl (addN (f.idxOf c)) (g.map f.idxOf) = (rs.foldl (addN c) g).map f.idxOf
  | [], g, _, _ => rfl
  | r :: rs, g, hrs, hg => by
    have hr := hrs r (List.mem_cons_self ..)
    have hx := hf.cl c hc r hr
    have hstep : addN (f.idxOf c) (g.map f.idxOf) (f.map fun c => f.idxOf (r.getD c 0)) = (addN c g r).map f.idxOf := by
      unfold addN
      rw [map_getD f _ _ 0 (List.idxOf_lt_length_iff.mpr hc), idx_getD hc]
      by_cases q : r.getD c 0 ∈ g
      · rw [if_pos q, if_pos (List.mem_map_of_mem q)]
      · rw [if_neg q, if_neg, List.map_append]
        · rfl
        · intro h
          obtain ⟨y, hy, e⟩ := List.mem_map.mp h
          have : y = r.getD c 0 := by rw [← idx_getD (hg y hy), e, idx_getD hx]
          exact q (this ▸ hy)
    show (numR rs f).foldl (addN (f.idxOf c)) (addN (f.idxOf c) (g.map f.idxOf) (f.map fun c => f.idxOf (r.getD c 0))) = _
    rw [hstep]
    refine num_visit hf hc (fun r' h' => hrs r' (List.mem_cons_of_mem _ h')) fun x hx' => ?_
    rcases foldN_mem c (rows := [r]) (g := g) hx' with q | ⟨r', h1, rfl⟩
    · exact hg x q
    · rw [List.mem_singleton.mp h1]; exact hx
theorem num_bfs {rows : List (List Nat)} {n : Nat} {f : List Nat} (hf : Closd rows n f) : ∀ (m i : Nat) {g : List Nat}, (∀ x ∈ g, x ∈ f) → bfs (numR rows f) m i (g.map f.idxOf) = (bfs rows m i g).map f.idxOf
  | 0, _, _, _ => rfl
  | m + 1, i, g, hg => by
    unfold bfs
    rw [List.length_map]
    by_cases hi : i < g.length
    · rw [if_pos hi, if_pos hi]
      have hm := hg _ (getD_memD hi)
      have e : visit (numR rows f) (g.map f.idxOf) i = (visit rows g i).map f.idxOf := by
        rw [visit_eq, visit_eq, map_getD g _ i 0 hi]
        exact num_visit hf hm (fun _ h => h) hg
      rw [e]
      refine num_bfs hf m (i + 1) fun x hx => ?_
      rcases foldN_mem _ hx with q | ⟨r, h1, rfl⟩
      · exact hg x q
      · exact hf.cl _ hm r h1
    · rw [if_neg hi, if_neg hi]
theorem bfs_more {rows : List (List Nat)} {n : Nat} (hr : ∀ r ∈ rows, ∀ c, c < n → r.getD c 0 < n) : ∀ {m m' i : Nat} {f : List Nat}, n < i + m → n < i + m' → BInv rows n i f → bfs rows m i f = bfs rows m' i f
  | 0, _, i, f, hm, _, h => by have := h.len; have := h.le; exact absurd hm (by omega)
  | _ + 1, 0, i, f, _, hm, h => by have := h.len; have := h.le; exact absurd hm (by omega)
  | m + 1, m' + 1, i, f, hm, hm', h => by
    unfold bfs; split
    · rename_i hi
      exact bfs_more hr (by omega) (by omega) (h.step hi hr)
    · rfl
theorem idx_self {f : List Nat} (hn : f.Nodup) : f.map f.idxOf = List.range f.length := by
  refine List.ext_getElem (by simp) fun i h1 h2 => ?_
  rw [List.length_map] at h1
  have := getD_idx hn h1
  rw [List.getD_eq_getElem?_getD, List.getElem?_eq_getElem h1] at this
  simpa using this
theorem num_places {p : Pl} {rows : List (List Nat)} {n c : Nat} (hp : p.Ok) (h : TabOk p rows n) (hc : c < n) : placesN (numR rows (placesN rows n c)) (placesN rows n c).length 0 = List.range (placesN rows n c).length := by
  obtain ⟨hf, h1, h2, h3⟩ := placesN_ok h hc
  have e0 : ([c] : List Nat).map (placesN rows n c).idxOf = [0] := by
    have := getD_idx hf.nd h2
    rw [h1] at this
    simp [this]
  have q := num_bfs hf (n + 1) 0 (g := [c]) fun x hx => by rw [List.mem_singleton.mp hx]; exact h3
  rw [e0] at q
  have hT := h.num hp hf h2
  have hr : ∀ r ∈ numR rows (placesN rows n c), ∀ x, x < (placesN rows n c).length → r.getD x 0 < (placesN rows n c).length := fun r hr x hx => ((hT.row r hr).2 x hx).1
  have hlen : (placesN rows n c).length ≤ n := by
    have := len_sub (l := placesN rows n c) (l' := List.range n) hf.nd fun a ha => List.mem_range.mpr (hf.lt a ha)
    rwa [List.length_range] at this
  have hb : BInv (numR rows (placesN rows n c)) (placesN rows n c).length 0 [0] := ⟨by simp, fun x hx => by rw [List.mem_singleton.mp hx]; exact h2, by simp, fun j hj => absurd hj (Nat.not_lt_zero _)⟩
  show bfs _ _ 0 [0] = _
  rw [bfs_more hr (m' := n + 1) (by omega) (by omega) hb, q]
  exact idx_self hf.nd

/-! ### first ways -/
structure Canon (p : Pl) (rows : List (List Nat)) (n : Nat) : Prop where
  tab : TabOk p rows n
  can : placesN rows n 0 = List.range n
def vis (rows : List (List Nat)) (c : Nat) : List Nat := (List.range c).foldl (fun f i => rows.foldl (addN i) f) [0]
theorem vis_succ (rows : List (List Nat)) (c : Nat) : vis rows (c + 1) = rows.foldl (addN c) (vis rows c) := by
  unfold vis; rw [List.range_succ, List.foldl_append]; rfl
theorem pre_range {f : List Nat} {n c : Nat} (h : f <+: List.range n) (hc : c < f.length) : f.getD c 0 = c := by
  have e := getD_pre h hc
  have : c < n := by have := h.length_le; rw [List.length_range] at this; omega
  rw [← e]; simp [List.getD_eq_getElem?_getD, this]
theorem Canon.step {p : Pl} {rows : List (List Nat)} {n : Nat} (h : Canon p rows n) : ∀ c, c ≤ n → bfs rows (n + 1 - c) c (vis rows c) = List.range n
  | 0, _ => h.can
  | c + 1, hc => by
    have ih := h.step c (by omega)
    have e : n + 1 - c = (n + 1 - (c + 1)) + 1 := by omega
    rw [e] at ih
    have hp := bfs_pre rows (n + 1 - (c + 1) + 1) c (vis rows c)
    rw [ih] at hp
    unfold bfs at ih
    by_cases hl : c < (vis rows c).length
    · rw [if_pos hl, visit_eq, pre_range hp hl, ← vis_succ] at ih
      exact ih
    · rw [if_neg hl] at ih
      rw [ih, List.length_range] at hl
      omega
theorem Canon.pre {p : Pl} {rows : List (List Nat)} {n : Nat} (h : Canon p rows n) {c : Nat} (hc : c ≤ n) : vis rows c <+: List.range n := by
  have hp := bfs_pre rows (n + 1 - c) c (vis rows c)
  rwa [h.step c hc] at hp
theorem Canon.in_ {p : Pl} {rows : List (List Nat)} {n : Nat} (h : Canon p rows n) {c : Nat} (hc : c < n) : c < (vis rows c).length := by
  have e := h.step c (by omega)
  have e2 : n + 1 - c = (n - c) + 1 := by omega
  rw [e2] at e
  unfold bfs at e
  by_cases hl : c < (vis rows c).length
  · exact hl
  · rw [if_neg hl] at e
    rw [e, List.length_range] at hl
    omega
theorem Canon.all {p : Pl} {rows : List (List Nat)} {n : Nat} (h : Canon p rows n) : vis rows n = List.range n := by
  have e := h.step n (Nat.le_refl n)
  have hp := h.pre (Nat.le_refl n)
  have e2 : n + 1 - n = 0 + 1 := by omega
  rw [e2] at e
  unfold bfs at e
  have : ¬ n < (vis rows n).length := by have := hp.length_le; rw [List.length_range] at this; omega
  rwa [if_neg this] at e
abbrev Fws := List (Nat × List Nat)
def lookN (l : Fws) (k : Nat) : Option (List Nat) := (l.find? fun kv => kv.1 == k).map (·.2)
def setN (acc : Fws) (k : Nat) (v : List Nat) : Fws := if k ∈ acc.map (·.1) then acc else acc ++ [(k, v)]
def fwRow (c : Nat) (acc : Fws) (kr : Nat × List Nat) : Fws := setN acc (kr.2.getD c 0) ((lookN acc c).getD [] ++ [kr.1])
def fwStep (p : Pl) (rows : List (List Nat)) (acc : Fws) (c : Nat) : Fws := (p.kinds.zip rows).foldl (fwRow c) acc
def fwN (p : Pl) (rows : List (List Nat)) (c : Nat) : Fws := (List.range c).foldl (fwStep p rows) [(0, [])]
theorem fwN_succ (p : Pl) (rows : List (List Nat)) (c : Nat) : fwN p rows (c + 1) = fwStep p rows (fwN p rows c) c := by
  unfold fwN; rw [List.range_succ, List.foldl_append]; rfl
theorem setN_keys (acc : Fws) (k : Nat) (v : List Nat) : (setN acc k v).map (·.1) = if k ∈ acc.map (·.1) then acc.map (·.1) else acc.map (·.1) ++ [k] := by
  unfold setN; split <;> simp
theorem lookN_app {l m : Fws} {k : Nat} : lookN (l ++ m) k = (lookN l k).or (lookN m k) := by
  unfold lookN
  rw [List.find?_append]
  cases List.find? (fun kv => kv.1 == k) l <;> rfl
theorem lookN_some {l : Fws} {k : Nat} : (lookN l k).isSome = true ↔ k ∈ l.map (·.1) := by
  unfold lookN
  rw [Option.isSome_map, List.find?_isSome]
  simp
theorem lookN_mem {l : Fws} {k : Nat} {v : List Nat} (h : lookN l k = some v) : (k, v) ∈ l := by
  unfold lookN at h
  obtain ⟨kv, h1, h2⟩ := Option.map_eq_some_iff.mp h
  have := List.find?_some h1
  have e : kv.1 = k := by simpa using this
  have hm := List.mem_of_find?_eq_some h1
  rw [← e, ← h2]; exact hm
theorem setN_look {acc : Fws} {k c : Nat} {v : List Nat} (h : (lookN acc c).isSome = true) : lookN (setN acc k v) c = lookN acc c := by
  unfold setN; split
  · rfl
  · rw [lookN_app]
    cases e : lookN acc c with
    | none => rw [e] at h; cases h
    | some w => rfl
/-- what holds of the first ways found so far -/
structure FwOk (p : Pl) (rows : List (List Nat)) (m : Nat) (acc : Fws) : Prop where
  len : ∀ kv ∈ acc, kv.2.length ≤ m
  ins : ∀ kv ∈ acc, ∀ k ∈ kv.2, k ∈ p.kinds
  wlk : ∀ kv ∈ acc, kv.2.foldl (fun c k => tb p rows k c) 0 = kv.1
theorem tb_at {p : Pl} {rows : List (List Nat)} (hp : p.kinds.Nodup) (hl : rows.length = p.kinds.length) {k : Nat} {r : List Nat} (h : (k, r) ∈ p.kinds.zip rows) (c : Nat) : tb p rows k c = r.getD c 0 ∧ k ∈ p.kinds := by
  obtain ⟨i, hi, e⟩ := List.mem_iff_getElem.mp h
  rw [List.length_zip] at hi
  rw [List.getElem_zip] at e
  have e1 : p.kinds[i] = k := congrArg Prod.fst e
  have e2 : rows[i] = r := congrArg Prod.snd e
  have hk : p.kinds.idxOf k = i := by
    have := getD_idx hp (i := i) (by omega)
    rw [List.getD_eq_getElem?_getD, List.getElem?_eq_getElem (by omega)] at this
    rw [← e1]; exact this
  refine ⟨?_, e1 ▸ List.getElem_mem _⟩
  unfold tb
  rw [hk]
  simp [List.getD_eq_getElem?_getD, show i < rows.length by omega, e2]
theorem fwRow_ok {p : Pl} {rows : List (List Nat)} {m c : Nat} {acc : Fws} (hp : p.kinds.Nodup) (hl : rows.length = p.kinds.length) (h : FwOk p rows (m + 1) acc) (hc : ∃ w, lookN acc c = some w ∧ w.length ≤ m) {kr : Nat × List Nat} (hk : kr ∈ p.kinds.zip rows) : FwOk p rows (m + 1) (fwRow c acc kr) ∧ lookN (fwRow c acc kr) c = lookN acc c := by
  obtain ⟨w, hw, hwl⟩ := hc
  obtain ⟨k, r⟩ := kr
  obtain ⟨t1, t2⟩ := tb_at hp hl hk c
  have hm := lookN_mem hw
  refine ⟨?_, setN_look (by rw [hw]; rfl)⟩
  unfold fwRow setN
  split
  · exact h
  · rw [hw]
    refine ⟨fun kv q => ?_, fun kv q => ?_, fun kv q => ?_⟩
    · rcases List.mem_append.mp q with q | q
      · exact h.len kv q
      · rw [List.mem_singleton.mp q]; simp; exact hwl
    · rcases List.mem_append.mp q with q | q
      · exact h.ins kv q
      · rw [List.mem_singleton.mp q]
        intro x hx
        rcases List.mem_append.mp hx with hx | hx
        · exact h.ins _ hm x hx
        · rw [List.mem_singleton.mp hx]; exact t2
    · rcases List.mem_append.mp q with q | q
      · exact h.wlk kv q
      · rw [List.mem_singleton.mp q]
        show (w ++ [k]).foldl _ 0 = r.getD c 0
        rw [List.foldl_append, h.wlk _ hm]
        exact t1
theorem fwStep_ok {p : Pl} {rows : List (List Nat)} {m c : Nat} (hp : p.kinds.Nodup) (hl : rows.length = p.kinds.length) : ∀ {krs : List (Nat × List Nat)} {acc : Fws}, (∀ kr ∈ krs, kr ∈ p.kinds.zip rows) → FwOk p rows (m + 1) acc → (∃ w, lookN acc c = some w ∧ w.length ≤ m) → FwOk p rows (m + 1) (krs.foldl (fwRow c) acc) ∧ lookN (krs.foldl (fwRow c) acc) c = lookN acc c ∧ (krs.foldl (fwRow c) acc).map (·.1) = (krs.map (·.2)).foldl (addN c) (acc.map (·.1))
  | [], acc, _, h, _ => ⟨h, rfl, rfl⟩
  | kr :: krs, acc, hk, h, hc => by
    obtain ⟨a1, a2⟩ := fwRow_ok hp hl h hc (hk kr (List.mem_cons_self ..))
    obtain ⟨b1, b2, b3⟩ := fwStep_ok hp hl (krs := krs) (fun q hq => hk q (List.mem_cons_of_mem _ hq)) a1 (by rw [a2]; exact hc)
    refine ⟨b1, b2.trans a2, ?_⟩
    rw [List.foldl_cons, b3]
    show _ = (krs.map (·.2)).foldl (addN c) (addN c (acc.map (·.1)) kr.2)
    rw [show (fwRow c acc kr).map (·.1) = addN c (acc.map (·.1)) kr.2 from setN_keys ..]
theorem zip_snd {α β : Type} {l : List α} {m : List β} (h : m.length = l.length) : (l.zip m).map (·.2) = m := by
  rw [List.map_snd_zip]; omega
theorem fwN_ok {p : Pl} {rows : List (List Nat)} {n : Nat} (hp : p.Ok) (h : Canon p rows n) : ∀ c, c ≤ n → FwOk p rows c (fwN p rows c) ∧ (fwN p rows c).map (·.1) = vis rows c
  | 0, _ => ⟨⟨fun kv q => by rw [List.mem_singleton.mp q]; simp, fun kv q => by rw [List.mem_singleton.mp q]; simp, fun kv q => by rw [List.mem_singleton.mp q]; rfl⟩, rfl⟩
  | c + 1, hc => by
    obtain ⟨a, b⟩ := fwN_ok hp h c (by omega)
    have hn : p.kinds.Nodup := hp.asc.imp Nat.ne_of_lt
    have hin := h.in_ (c := c) (by omega)
    have hcm : c ∈ (fwN p rows c).map (·.1) := by
      have q := getD_memD hin
      rw [pre_range (h.pre (by omega)) hin] at q
      rw [b]; exact q
    have hs := lookN_some.mpr hcm
    obtain ⟨w, hw⟩ := Option.isSome_iff_exists.mp hs
    have a' : FwOk p rows (c + 1) (fwN p rows c) := ⟨fun kv q => Nat.le_succ_of_le (a.len kv q), a.ins, a.wlk⟩
    obtain ⟨q1, q2, q3⟩ := fwStep_ok (m := c) (c := c) hn h.tab.len (krs := p.kinds.zip rows) (fun _ h => h) a' ⟨w, hw, a.len _ (lookN_mem hw)⟩
    rw [fwN_succ, vis_succ, ← b]
    refine ⟨q1, ?_⟩
    rw [zip_snd h.tab.len] at q3
    exact q3
/-- the first way to a place -/
def fw (p : Pl) (rows : List (List Nat)) (n c : Nat) : List Nat := (lookN (fwN p rows n) c).getD []
theorem fw_ok {p : Pl} {rows : List (List Nat)} {n : Nat} (hp : p.Ok) (h : Canon p rows n) {c : Nat} (hc : c < n) : lookN (fwN p rows n) c = some (fw p rows n c) ∧ (fw p rows n c).length ≤ n ∧ (∀ k ∈ fw p rows n c, k ∈ p.kinds) ∧ (fw p rows n c).foldl (fun c k => tb p rows k c) 0 = c := by
  obtain ⟨a, b⟩ := fwN_ok hp h n (Nat.le_refl n)
  have hcm : c ∈ (fwN p rows n).map (·.1) := by rw [b, h.all]; exact List.mem_range.mpr hc
  obtain ⟨w, hw⟩ := Option.isSome_iff_exists.mp (lookN_some.mpr hcm)
  have e : fw p rows n c = w := by unfold fw; rw [hw]; rfl
  have hm := lookN_mem hw
  rw [e]
  exact ⟨hw, a.len _ hm, a.ins _ hm, a.wlk _ hm⟩
/-- the names that ways tells, in the order in which they are made -/
def addS (ns : List (List Nat)) (s : List Nat) : List (List Nat) := if s ∈ ns then ns else ns ++ [s]
def wayN (p : Pl) (rows : List (List Nat)) (n c : Nat) (kr : Nat × List Nat) : List Nat := fw p rows n c ++ [kr.1] ++ (fw p rows n (kr.2.getD c 0)).reverse
def namesAt (p : Pl) (rows : List (List Nat)) (n c : Nat) (ns : List (List Nat)) : List (List Nat) := (p.kinds.zip rows).foldl (fun ns kr => addS ns (joinN p [] (wayN p rows n c kr))) ns
def namesN (p : Pl) (rows : List (List Nat)) (n c : Nat) : List (List Nat) := (List.range c).foldl (fun ns c => namesAt p rows n c ns) []

/-! ### plans, names -/
abbrev crossD (p : Pl) : List (DK × D) := p.kinds.map fun k => (Sum.inr [k], .str (p.cross k))
abbrev planD (K : PySem.W.Frag) (p : Pl) : D := .obj (He.ga K "Plan") [("kinds", .str p.kinds), ("pairs", .tup (p.pairs.map .str)), ("own_crossing", .dct (crossD p))]
theorem look_map {β : Type} {f : Nat → β} {k : Nat} : ∀ {l : List Nat}, k ∈ l → look (l.map fun k => ((Sum.inr [k] : DK), f k)) (Sum.inr [k]) = some (f k)
  | [], h => by cases h
  | a :: l, h => by
    show (if (Sum.inr [a] : DK) = Sum.inr [k] then some (f a) else look _ _) = _
    by_cases e : a = k
    · subst e; exact if_pos rfl
    · rw [if_neg (by simpa using e)]
      rcases List.mem_cons.mp h with h | h
      · exact absurd h.symm e
      · exact look_map h
theorem look_cross {p : Pl} {k : Nat} (h : k ∈ p.kinds) : look (crossD p) (Sum.inr [k]) = some (.str (p.cross k)) := look_map h
section
variable {P : Program} {w : World} {K : PySem.W.Frag} {mg : Str → Option Value} {base : Heap} [Txt K mg]
abbrev rStepped (K : PySem.W.Frag) : DRel := RelF (fun a : Pl × List Nat × Nat => [planD K a.1, .str a.2.1, .str [a.2.2]]) (fun a => a.2.2 ∈ a.1.kinds ∧ a.2.1.length < 50000) (fun a => .str (stepN (a.1.cross a.2.2) a.2.1 a.2.2))
theorem lt_one {a b : Nat} : ([a] < [b]) = (a < b) := by simp [List.cons_lt_cons_iff]
theorem f_stepped : FnS P w K mg base "stepped" 1 [] (rStepped K) := by
  refine mk_stepped (relF_len fun _ => rfl) (relF_body ?_)
  rintro ⟨p, name, k⟩ ⟨hk, hl⟩
  dsimp only [start0, N_stepped] at *
  wtm_at "bd"
  have f1 := look_cross hk
  have sz := sz_line (show name.length ≤ 100000 by omega)
  let ev : Int → Dl.Env := fun n => [("plan", some (planD K p)), ("name", some (.str name)), ("kind", some (.str [k])), ("partners", some (.str (p.cross k))), ("place", some (.int n))]
  wtm_at "sset"
  wtm_at "sset"
  refine ss_while (fun n ρ' M' => n ≤ name.length ∧ M' = [] ∧ down (p.cross k) name n = down (p.cross k) name name.length ∧ ρ' = ev n) (n := name.length) ⟨Nat.le_refl _, rfl, rfl, rfl⟩ ?_
  rintro n ρ' M' ⟨h1, rfl, h2, rfl⟩
  dsimp only [ev]
  refine ⟨_, _, by wtm_at "evb", fun hk => ?_, fun hk => ?_⟩
  · simp only [Bool.and_eq_true, decide_eq_true_eq] at hk
    obtain ⟨m, rfl⟩ : ∃ m, n = m + 1 := ⟨n - 1, by omega⟩
    refine ss_set (by wtm_at "put_") (by wtm_at "ev") (ss_nil ⟨m, Nat.lt_succ_self _, by omega, rfl, ?_, ?_⟩)
    · rw [← h2]
      exact (if_pos (by simpa using hk.2)).symm
    · simp [ev]
  · have hn : down (p.cross k) name name.length = n := by
      rw [← h2]
      refine down_at fun h => ?_
      have e : ((n : Int) - 1).toNat = n - 1 := by omega
      simp only [Bool.and_eq_false_iff, decide_eq_false_iff_not, e] at hk
      rcases hk with hk | hk
      · omega
      · exact hk
    have hl1 : 0 < n → (cut name none (some ((n : Int) - 1))).length + (cut name (some (n : Int)) none).length ≤ sizeLine := fun h => by
      rw [cut_from, show ((n : Int) - 1) = ((n - 1 : Nat) : Int) by omega, cut_to]; simp; omega
    refine ss_if (by wtm_at "evb") (fun hk => ?_) fun hk => ?_
    · simp only [Bool.and_eq_true, decide_eq_true_eq] at hk
      have hl1 := hl1 (by omega)
      refine ss_ret (by wtm_at "ev") ⟨?_, rfl⟩
      rw [cut_from, show ((n : Int) - 1) = ((n - 1 : Nat) : Int) by omega, cut_to]
      unfold stepN
      rw [hn]
      refine (congrArg D.str (if_pos ⟨by omega, ?_⟩)).symm
      have := hk.2
      rw [show ((n : Int) - 1).toNat = n - 1 by omega] at this
      simpa using this
    · have hne : ¬ (0 < n ∧ name.getD (n - 1) 0 = k) := fun ⟨a, b⟩ => by
        simp only [Bool.and_eq_false_iff, decide_eq_false_iff_not] at hk
        rcases hk with hk | hk
        · omega
        · rw [show ((n : Int) - 1).toNat = n - 1 by omega] at hk
          exact hk (by rw [b])
      refine ss_nil ?_
      dsimp only
      refine ss_while (fun m ρ' M' => ∃ i : Nat, m = name.length - i ∧ i ≤ name.length ∧ M' = [] ∧ upl name i k = upl name n k ∧ ρ' = ev i) (n := name.length - n) ⟨n, rfl, h1, rfl, rfl, rfl⟩ ?_
      rintro m ρ' M' ⟨i, rfl, h3, rfl, h4, rfl⟩
      dsimp only [ev]
      refine ⟨_, _, by wtm_at "evb", fun hk => ?_, fun hk => ?_⟩
      · simp only [Bool.and_eq_true, decide_eq_true_eq, lt_one, Int.toNat_natCast] at hk
        refine ss_set (by wtm_at "put_") (by wtm_at "ev") (ss_nil ⟨name.length - (i + 1), by omega, i + 1, rfl, by omega, rfl, ?_, ?_⟩)
        · rw [← h4]; exact (upl_step (by omega) hk.2).symm
        · simp [ev]
      · simp only [Bool.and_eq_false_iff, decide_eq_false_iff_not, lt_one, Int.toNat_natCast] at hk
        have hi : upl name n k = i := by
          rw [← h4]
          exact upl_stop fun h => by
            rcases hk with hk | hk
            · omega
            · exact hk
        have hl2 : (cut name none (some (i : Int))).length + ([k] : List Nat).length ≤ sizeLine := by rw [cut_to]; have := sz_line (show (name.take i).length + 1 ≤ 100000 by simp; omega); simpa using this
        have hl3 : (cut name none (some (i : Int)) ++ [k]).length + (cut name (some (i : Int)) none).length ≤ sizeLine := by
          rw [cut_to, cut_from]; have := sz_line (show (name.take i ++ [k]).length + (name.drop i).length ≤ 100000 by simp; omega); simpa using this
        refine ss_ret (by wtm_at "ev") ⟨?_, rfl⟩
        rw [cut_from, cut_to]
        unfold stepN
        rw [hn, ← hi]
        exact (congrArg D.str (if_neg hne)).symm
abbrev rJoined (K : PySem.W.Frag) : DRel := RelF (fun a : Pl × List Nat × List Nat => [planD K a.1, .str a.2.1, .str a.2.2]) (fun a => (∀ k ∈ a.2.2, k ∈ a.1.kinds) ∧ a.2.1.length + a.2.2.length < 50000) (fun a => .str (joinN a.1 a.2.1 a.2.2))
theorem f_joined : FnS P w K mg base "joined" 2 [] (rJoined K) := by
  refine mk_joined (relF_len fun _ => rfl) (relF_body ?_)
  rintro ⟨p, name, way⟩ ⟨hk, hl⟩
  dsimp only [start0, N_joined] at *
  wtm_at "bd"
  refine ss_for (pin_str (by wtm_at "ev")) (by wtm_at "tgn") (fun i ρ M => M = [] ∧ ∃ o, ρ = ([("plan", some (planD K p)), ("name", some (.str (joinN p name (way.take i)))), ("way", some (.str way)), ("kind", o)] : Dl.Env)) ⟨rfl, none, by simp [joinN]⟩ ?_ ?_
  · rintro i x ρ M hx ⟨rfl, o, rfl⟩
    rw [List.getElem?_map] at hx
    obtain ⟨k, hk', rfl⟩ := Option.map_eq_some_iff.mp hx
    have hi := (List.getElem?_eq_some_iff.mp hk').1
    have hm : k ∈ p.kinds := hk k (List.mem_of_getElem? hk')
    refine ⟨_, ⟨_, by wtm_at "put_", rfl⟩, ?_⟩
    have hjl := joinN_len p (way.take i) name
    rw [List.length_take] at hjl
    refine ss_set (by wtm_at "put_") (pv_callF f_stepped (p, joinN p name (way.take i), k) ⟨hm, by dsimp only; omega⟩ (by wtm_at "args")) (ss_nil ⟨rfl, some (.str [k]), ?_⟩)
    rw [← joinN_snoc, List.take_add_one, hk']
    rfl
  · rintro ρ M ⟨rfl, o, rfl⟩
    rw [List.length_map, List.take_length]
    refine ss_ret (by wtm_at "ev") ⟨rfl, rfl⟩
end

/-! ### words, plans: the walk -/
theorem map_str_inj {a b : List (List Nat)} (h : a.map D.str = b.map D.str) : a = b := by
  have := List.map_inj_right (f := D.str) (fun x y e => D.str.inj e) |>.mp h
  exact this
theorem fls_strs {ls : List (List Nat)} (h : ∀ s ∈ ls, ∀ k ∈ s, k < 128) : Fls 0 (ls.map D.str) := by
  rw [fls_iff]
  intro x hx
  obtain ⟨s, hs, rfl⟩ := List.mem_map.mp hx
  unfold Fl
  exact fun k hk => Nat.lt_trans (h s hs k hk) (by decide)
theorem Pl.Ok.lt {p : Pl} (h : p.Ok) : ∀ s ∈ p.pairs, ∀ k ∈ s, k < 128 := by
  intro s hs k hk
  obtain ⟨a, b, rfl, _, h1, h2⟩ := h.two s hs
  have q1 := h.lo a h1
  have q2 := h.lo b h2
  rcases List.mem_cons.mp hk with e | e
  · omega
  · rw [List.mem_singleton.mp e]; omega
section
variable {P : Program} {w : World} {K : PySem.W.Frag} {mg : Str → Option Value} {base : Heap} [Txt K mg]
abbrev rIsInt : DRel := RelF (fun n : Int => [.int n]) (fun _ => True) fun _ => .bl true
theorem f_is_integer : FnS P w K mg base "is_integer" 1 [] rIsInt := by
  refine mk_is_integer (relF_len fun _ => rfl) (relF_body fun n _ => ?_)
  dsimp only [start0, N_is_integer]
  wtm_at "bd"
  (refine ss_ret (by wtm_at "ev") ?_; exact ⟨rfl, rfl⟩)
abbrev rIsList : DRel := RelF (fun a : Bool × List D => [bif a.1 then .lst a.2 else .tup a.2]) (fun _ => True) fun _ => .bl true
theorem f_is_list : FnS P w K mg base "is_list" 1 [] rIsList := by
  refine mk_is_list (relF_len fun _ => rfl) (relF_body ?_)
  rintro ⟨b, xs⟩ _
  cases b <;> dsimp only [start0, N_is_list, cond_true, cond_false] <;> (wtm_at "bd") <;> (refine ss_ret (by wtm_at "ev") ?_; exact ⟨rfl, rfl⟩)
abbrev rPlanEq (K : PySem.W.Frag) : DRel := RelF (fun a : Pl × Pl => [planD K a.1, planD K a.2]) (fun a => a.1.Ok ∧ a.2.Ok) fun a => .bl (decide (a.1.kinds = a.2.kinds ∧ a.1.pairs = a.2.pairs))
theorem f_Plan_eq : MtS P w K mg base (He.ga K "Plan") "__eq__" 1 [] (rPlanEq K) := by
  refine mk_Plan_eq (relF_len fun _ => rfl) (relF_body ?_)
  rintro ⟨p, q⟩ ⟨hp, hq⟩
  dsimp only [start0, N_Plan_eq] at *
  wtm_at "bd"
  have f1 : Fl 1 (.tup (p.pairs.map D.str)) := by unfold Fl; exact fls_strs hp.lt
  have f2 : Fl 1 (.tup (q.pairs.map D.str)) := by unfold Fl; exact fls_strs hq.lt
  refine ss_ret (pv_and (by wtm_at "ev") fun _ => pv_and (by wtm_at "ev") fun _ => pv_one (pv_cmp (by wtm_at "ev") (by wtm_at "ev") (o_eqP (k := decide (p.pairs = q.pairs)) (pdat f1) (pdat f2) f1 f2 ?_))) ?_
  · rw [decide_eq_true_iff, D.tup.injEq]
    exact ⟨fun h => by rw [h], fun h => map_str_inj h⟩
  · refine ⟨?_, rfl⟩
    refine congrArg D.bl (Bool.eq_iff_iff.mpr ?_)
    simp
/-- the same plan told twice -/
abbrev rSame (K : PySem.W.Frag) : DRel := RelF (fun a : Pl × Pl => [planD K a.1, planD K a.2]) (fun a => a.1.Ok ∧ a.2 = a.1) fun _ => .non
theorem f_need_same : FnS P w K mg base "need_same" 3 [] (rSame K) := by
  refine mk_need_same (relF_len fun _ => rfl) (relF_body ?_)
  rintro ⟨p, q⟩ ⟨hp, e⟩
  dsimp only [start0, N_need_same] at *
  wtm_at "bd"
  subst e
  refine ss_if (pb_cmp (by wtm_at "ev") (by wtm_at "ev") (o_ownNe f_Plan_eq (by wtm_at "gf") ⟨(q, q), rfl, ⟨hp, hp⟩, rfl, rfl, rfl⟩)) (fun hk => ?_) fun hk => ?_
  · simp at hk
  · exact ss_nil (ss_nil ⟨rfl, rfl⟩)
/-- a way of the plan -/
abbrev rNeedWay (K : PySem.W.Frag) : DRel := RelF (fun a : Pl × List Nat => [planD K a.1, .str a.2]) (fun a => (∀ k ∈ a.2, k ∈ a.1.kinds) ∧ a.2.length ≤ 2000) fun a => .str a.2
theorem f_need_way : FnS P w K mg base "need_way" 1 [] (rNeedWay K) := by
  refine mk_need_way (relF_len fun _ => rfl) (relF_body ?_)
  rintro ⟨p, way⟩ ⟨hk, hl⟩
  dsimp only [start0, N_need_way] at *
  wtm_at "bd"
  refine ss_if (by wtm_at "evb") (fun h => by cases h) fun _ => ?_
  refine ss_nil ?_
  refine ss_for (by wtm_at "pin") (pgn_nm2 (i := 2) (j := 3) (by wtm_at "nix") (by wtm_at "nix") (by dsimp only; decide +kernel)) (fun i ρ M => M = [] ∧ ∃ o1 o2, ρ = ([("plan", some (planD K p)), ("way", some (.str way)), ("index", o1), ("letter", o2)] : Dl.Env)) ⟨rfl, none, none, rfl⟩ ?_ ?_
  · rintro i x ρ M hx ⟨rfl, o1, o2, rfl⟩
    unfold enumD at hx
    rw [List.getElem?_mapIdx, List.getElem?_map] at hx
    obtain ⟨y, hy, rfl⟩ := Option.map_eq_some_iff.mp hx
    obtain ⟨k, hk', rfl⟩ := Option.map_eq_some_iff.mp hy
    have hm : k ∈ p.kinds := hk k (List.mem_of_getElem? hk')
    refine ⟨_, ⟨_, _, _, _, rfl, by wtm_at "put_", by wtm_at "put_", rfl⟩, ?_⟩
    refine ss_if (by wtm_at "evb") (fun h => ?_) fun _ => ss_nil (ss_nil ⟨rfl, _, _, rfl⟩)
    simp [hm] at h
  · rintro ρ M ⟨rfl, o1, o2, rfl⟩
    refine ss_if (by wtm_at "evb") (fun h => ?_) fun _ => ?_
    · have := of_decide_eq_true h; omega
    refine ss_nil ?_
    (refine ss_ret (by wtm_at "ev") ?_; exact ⟨rfl, rfl⟩)
/-- unlike letters -/
abbrev rAreLetters : DRel := RelF (fun s : List Nat => [.str s]) (fun s => (∀ k ∈ s, k ∈ letters) ∧ s.Nodup) fun _ => .bl true
theorem nodup_few {s : List Nat} (h : ∀ k ∈ s, k ∈ letters) (hn : s.Nodup) : s.length < 1000 := by
  have := len_sub hn h
  have e : letters.length = 26 := rfl
  omega
theorem f_are_letters : FnS P w K mg base "are_letters" 1 [] rAreLetters := by
  refine mk_are_letters (relF_len fun _ => rfl) (relF_body ?_)
  rintro s ⟨hl, hn⟩
  dsimp only [start0, N_are_letters] at *
  wtm_at "bd"
  have h1 := nodup_few hl hn
  refine ss_ret (pv_and (by wtm_at "ev") fun _ => pv_and (pv_b1 (by wtm_at "ev") (b_all (ks := s.map fun _ => true) ?_ (by wtm_at "gf"))) fun _ => pv_one (pv_cmp (pv_lenSetS (by wtm_at "ev") (fun k hk => ?_) hn h1 (by wtm_at "gf") (by wtm_at "gf")) (by wtm_at "ev") o_eqI)) ?_
  · rw [List.filter_eq_self.mpr (fun _ _ => rfl), List.map_map]
    refine List.map_congr_left fun k hk => ?_
    simp only [Function.comp]
    rw [decide_eq_true (hl k hk)]
  · have := letters_lo k (hl k hk); omega
  · refine ⟨?_, rfl⟩
    simp
abbrev rAscending : DRel := RelF (fun s : List Nat => [.str s]) (fun s => True) fun s => .str (ascN s)
theorem f_ascending : FnS P w K mg base "ascending" 1 [] rAscending := by
  refine mk_ascending (relF_len fun _ => rfl) (relF_body ?_)
  rintro s _
  dsimp only [start0, N_ascending] at *
  wtm_at "bd"
  have hl : (ascN s).length ≤ 100000 := by
    have := List.length_filter_le (fun k => decide (k ∈ s)) letters
    have e : letters.length = 26 := rfl
    unfold ascN; omega
  unfold ascN at hl
  (refine ss_ret (by wtm_at "ev") ?_; exact ⟨rfl, rfl⟩)
end

section
variable {P : Program} {w : World} {K : PySem.W.Frag} {mg : Str → Option Value} {base : Heap} [Txt K mg]
abbrev txs (l : List (List Nat)) : List D := l.map D.str
/-- pairs of kinds of a text -/
abbrev rPairs (K : PySem.W.Frag) : DRel := RelF (fun a : List Nat × List (List Nat) => [.str a.1, .lst (txs a.2)]) (fun a => (∀ k ∈ a.1, k ∈ letters) ∧ (∀ s ∈ a.2, ∃ x y, s = [x, y] ∧ x ≠ y ∧ x ∈ a.1 ∧ y ∈ a.1) ∧ a.2.length ≤ 1000) fun a => .tup (txs (pairsN (a.2.map ascN)))
theorem f_checked_pairs : FnS P w K mg base "checked_pairs" 3 [] (rPairs K) := by
  refine mk_checked_pairs (relF_len fun _ => rfl) (relF_body ?_)
  rintro ⟨kinds, cr⟩ ⟨hk, h2, hl⟩
  dsimp only [start0, N_checked_pairs] at *
  wtm_at "bd"
  refine ss_if (pb_not (pb_val (pv_callF f_is_list (true, txs cr) trivial (by wtm_at "args")))) (fun h => by cases h) fun _ => ss_nil ?_
  refine ss_setN (by wtm_at "put_") (pn_imp (pn_lst pas_nil) ?_)
  rintro _ _ ⟨p, rfl, rfl⟩
  refine ss_for (by wtm_at "pin") (by wtm_at "tgn") (fun i ρ M => M = [(p, .lst (txs ((cr.take i).map ascN)))] ∧ ∃ o, ρ = ([("kinds", some (.str kinds)), ("crossing", some (.lst (txs cr))), ("found", some (.ref p)), ("pair", o), ("a", none), ("b", none)] : Dl.Env)) ⟨by simp, none, rfl⟩ ?_ ?_
  · rintro i x ρ M hx ⟨rfl, o, rfl⟩
    rw [List.getElem?_map] at hx
    obtain ⟨s, hs, rfl⟩ := Option.map_eq_some_iff.mp hx
    have hi := (List.getElem?_eq_some_iff.mp hs).1
    obtain ⟨u, v, rfl, huv, hu, hv⟩ := h2 s (List.mem_of_getElem? hs)
    refine ⟨_, ⟨_, by wtm_at "put_", rfl⟩, ?_⟩
    have hul := hk u hu
    have hvl := hk v hv
    refine ss_if (pb_w (pw_or' (by wtm_at "evb") fun _ => pw_or' (by wtm_at "evb") fun _ => pw_o1 (pb_not (pb_val (pv_callF f_are_letters [u, v] ?_ (by wtm_at "args")))))) (fun h => ?_) fun _ => ss_nil ?_
    · exact ⟨fun k hk => by simp at hk; rcases hk with rfl | rfl <;> assumption, by simp [huv]⟩
    · simp at h
    refine ss_if (by wtm_at "evb") (fun h => ?_) fun _ => ss_nil ?_
    · simp [hu, hv] at h
    refine ss_expr (pv_append (by wtm_at "ev") (by wtm_at "mat_") (pv_callF f_ascending [u, v] trivial (by wtm_at "args")) (by wtm_at "mat_") (by wtm_at "mput_") (by wtm_at "sd")) ?_
    refine ss_nil ⟨?_, _, rfl⟩
    rw [List.take_add_one, hs]
    simp [txs]
  · rintro ρ M ⟨rfl, o, rfl⟩
    rw [List.length_map, List.take_length]
    have hz : (letters.flatMap fun _ => letters).length ≤ 100000 := by decide
    refine ss_ret (pv_drop (pv_b1 (by wtm_at "ev") (b_tupL (by wtm_at "gf"))) (by wtm_at "mcut_")) ?_
    refine ⟨?_, rfl⟩
    refine congrArg D.tup ?_
    unfold lc2Of pairsN txs
    rw [List.map_flatMap]
    simp only [List.map_map]
    congr 1
    funext x
    congr 1
    exact List.filter_congr fun b _ => decide_eq_decide.mpr Iff.rfl
abbrev rFew : DRel := RelF (fun s : List Nat => [.str s]) (fun s => s.length ≤ 8) fun _ => .non
theorem f_need_few : FnS P w K mg base "need_few" 1 [] rFew := by
  refine mk_need_few (relF_len fun _ => rfl) (relF_body fun s hs => ?_)
  dsimp only [start0, N_need_few] at *
  wtm_at "bd"
  refine ss_if (by wtm_at "evb") (fun h => ?_) fun _ => ss_nil (ss_nil ⟨rfl, rfl⟩)
  have := of_decide_eq_true h; omega
theorem look_map_none {β : Type} {f : Nat → β} {k : Nat} : ∀ {l : List Nat}, k ∉ l → look (l.map fun k => ((Sum.inr [k] : DK), f k)) (Sum.inr [k]) = none
  | [], _ => rfl
  | a :: l, h => by
    show (if (Sum.inr [a] : DK) = Sum.inr [k] then some (f a) else look _ _) = _
    rw [if_neg fun e => h (by rw [show a = k by simpa using e]; simp)]
    exact look_map_none fun q => h (List.mem_cons_of_mem _ q)
abbrev rTable (K : PySem.W.Frag) : DRel := RelF (fun p : Pl => [.str p.kinds, .tup (txs p.pairs)]) (fun p => p.kinds.Nodup ∧ p.kinds.length ≤ 8) fun p => .dct (crossD p)
theorem f_crossing_table : FnS P w K mg base "crossing_table" 1 [] (rTable K) := by
  refine mk_crossing_table (relF_len fun _ => rfl) (relF_body fun p hp => ?_)
  dsimp only [start0, N_crossing_table] at *
  obtain ⟨hn, hl⟩ := hp
  wtm_at "bd"
  refine ss_setN (by wtm_at "put_") (pn_imp pn_dct ?_)
  rintro _ _ ⟨q, rfl, rfl⟩
  refine ss_for (by wtm_at "pin") (by wtm_at "tgn") (fun i ρ M => M = [(q, .dK ((p.kinds.take i).map fun k => (Sum.inr [k], .str (p.cross k))))] ∧ ∃ o, ρ = ([("kinds", some (.str p.kinds)), ("pairs", some (.tup (txs p.pairs))), ("found", some (.ref q)), ("kind", o), ("other", none)] : Dl.Env)) ⟨by simp, none, rfl⟩ ?_ ?_
  · rintro i x ρ M hx ⟨rfl, o, rfl⟩
    rw [List.getElem?_map] at hx
    obtain ⟨k, hk, rfl⟩ := Option.map_eq_some_iff.mp hx
    have hi := (List.getElem?_eq_some_iff.mp hk).1
    refine ⟨_, ⟨_, by wtm_at "put_", rfl⟩, ?_⟩
    refine ss_dput (by wtm_at "ev") (by wtm_at "ev") (by wtm_at "ev") (by wtm_at "key_") (by wtm_at "mat_") (by wtm_at "mput_") (by wtm_at "sd") ?_
    refine ss_nil ⟨?_, _, rfl⟩
    refine congrArg (fun z => [(q, MO.dK z)]) ?_
    have hnl : look ((p.kinds.take i).map fun k => ((Sum.inr [k] : DK), D.str (p.cross k))) (Sum.inr [k]) = none := by
      refine look_map_none fun hm => ?_
      obtain ⟨j, hj⟩ := List.getElem?_of_mem hm
      have hj2 := (List.getElem?_eq_some_iff.mp hj).1
      rw [List.length_take] at hj2
      rw [List.getElem?_take_of_lt (by omega)] at hj
      have := (List.getElem?_inj (by omega) hn).mp (hj.trans hk.symm)
      omega
    unfold put
    rw [hnl, List.take_add_one, hk]
    simp [Pl.cross]
    exact List.filter_congr fun b _ => by rw [decide_eq_decide.mpr Iff.rfl, decide_eq_decide.mpr (Iff.rfl (a := [b, k] ∈ p.pairs))]
  · rintro ρ M ⟨rfl, o, rfl⟩
    rw [List.length_map, List.take_length]
    refine ss_ret (pv_frzD (by wtm_at "ev") (by wtm_at "mcut_")) ⟨rfl, rfl⟩
/-- a plan is made -/
abbrev planF (p : Pl) : List (Str × D) := [("kinds", .str p.kinds), ("pairs", .tup (txs p.pairs)), ("own_crossing", .dct (crossD p))]
abbrev rPlan (K : PySem.W.Frag) : DRel := RelI (He.ga K "Plan") (fun a : List Nat × List (List Nat) => [.str a.1, .lst (txs a.2)]) (fun a => Made a.1 a.2 ∧ a.1.Nodup ∧ a.2.length ≤ 1000) fun a => planF (mkPl a.1 a.2)
theorem f_Plan : MkS P w K mg base "Plan" (He.ga K "Plan") 4 [] (rPlan K) := by
  refine mk_Plan_init (relI_len fun _ => rfl) (relI_body ?_)
  rintro ⟨kinds, cr⟩ p ⟨hm, hn, hl⟩
  dsimp only [start0, N_Plan_init] at *
  wtm_at "bd"
  have hmem : ∀ k, k ∈ kinds → k ∈ ascN kinds := fun k hk => mem_ascN.mpr ⟨hm.lo k hk, hk⟩
  refine ss_if (pb_not (pb_val (pv_callF f_are_letters kinds ⟨hm.lo, hn⟩ (by wtm_at "args")))) (fun h => by cases h) fun _ => ss_nil ?_
  refine ss_fldF (pv_callF f_ascending kinds trivial (by wtm_at "args")) (by wtm_at "ev") (by wtm_at "mat_") (by wtm_at "gf") (by simp) (by wtm_at "pf_") (by wtm_at "mput_") ?_
  refine ss_fldF (pv_callF f_checked_pairs (ascN kinds, cr) ⟨fun k hk => (mem_ascN.mp hk).1, fun s hs => ?_, hl⟩ (by wtm_at "args")) (by wtm_at "ev") (by wtm_at "mat_") (by wtm_at "gf") (by simp) (by wtm_at "pf_") (by wtm_at "mput_") ?_
  · obtain ⟨a, b, e, n, h1, h2⟩ := hm.two s hs
    exact ⟨a, b, e, n, hmem a h1, hmem b h2⟩
  refine ss_expr (pv_callF f_need_few (ascN kinds) hm.len (by wtm_at "args")) ?_
  refine ss_fldF (pv_callF f_crossing_table (mkPl kinds cr) ⟨(ascN_asc kinds).imp (fun h => Nat.ne_of_lt h), hm.len⟩ (by wtm_at "args")) (by wtm_at "ev") (by wtm_at "mat_") (by wtm_at "gf") (by simp) (by wtm_at "pf_") (by wtm_at "mput_") ?_
  exact ss_nil ⟨rfl, rfl⟩
end

/-! ### tables: the walk -/
theorem flt_all {α : Type} (l : List α) : l.filter (fun _ => true) = l := List.filter_eq_self.mpr fun _ _ => rfl
section
variable {P : Program} {w : World} {K : PySem.W.Frag} {mg : Str → Option Value} {base : Heap} [Txt K mg]
abbrev rRow : DRel := RelF (fun r : List Nat => [rowL r, .non]) (fun r => r ≠ [] ∧ r.length ≤ 1000) fun _ => .bl true
theorem f_is_table_row : FnS P w K mg base "is_table_row" 2 [] rRow := by
  refine mk_is_table_row (relF_len fun _ => rfl) (relF_body ?_)
  rintro r ⟨hr, hl⟩
  dsimp only [start0, N_is_table_row] at *
  wtm_at "bd"
  refine ss_if (pb_w (pw_or' (pb_not (pb_val (pv_callF f_is_list (true, r.map nD) trivial (by wtm_at "args")))) fun _ => pw_or' (by wtm_at "evb") fun _ => pw_o1 (pb_w (pw_and' (j := false) (pb_cmp (by wtm_at "ev") (by wtm_at "ev") (o_notN (k := false) (by simp))) fun h => by cases h)))) (fun h => ?_) fun _ => ss_nil ?_
  · exact absurd (by simpa using h) hr
  · refine ss_ret (pv_b1 (pv_lc (lc_nm (l := r) (inj := nD) (t := fun _ => true) (g := fun _ => D.bl true) (by wtm_at "pin") rfl (by wtm_at "nix") (by wtm_at "wipe_") (by wtm_at "put_") (by dsimp only; decide +kernel) (by wtm_at "sd") (fun a ha => ⟨by wtm_at "pif", fun ht => pv_callF f_is_integer (a : Int) trivial (by wtm_at "args")⟩))) (b_all (ks := r.map fun _ => true) ?_ (by wtm_at "gf"))) ?_
    · rw [flt_all, List.map_map]; rfl
    · simp [bodyP, is]
abbrev rRows (K : PySem.W.Frag) : DRel := RelF (fun a : Pl × List (List Nat) × Nat => [planD K a.1, .lst (a.2.1.map rowL), .non]) (fun a => a.2.1.length = a.1.kinds.length ∧ (∀ r ∈ a.2.1, r.length = a.2.2) ∧ 0 < a.2.2 ∧ a.2.2 ≤ 1000 ∧ a.1.kinds.length ≤ 8) fun a => .tup (a.2.1.map rowT)
theorem f_table_rows : FnS P w K mg base "table_rows" 3 [] (rRows K) := by
  refine mk_table_rows (relF_len fun _ => rfl) (relF_body ?_)
  rintro ⟨p, rows, n⟩ ⟨hl, hr, h0, hn, h8⟩
  dsimp only [start0, N_table_rows] at *
  wtm_at "bd"
  refine ss_if (pb_w (pw_or' (pb_not (pb_val (pv_callF f_is_list (true, rows.map rowL) trivial (by wtm_at "args")))) fun _ => pw_o1 (by wtm_at "evb"))) (fun h => ?_) fun _ => ss_nil ?_
  · simp [hl] at h
  refine ss_for (by wtm_at "pin") (by wtm_at "tgn") (fun i ρ M => M = [] ∧ ∃ o, ρ = ([("plan", some (planD K p)), ("tables", some (.lst (rows.map rowL))), ("many", some .non), ("row", o)] : Dl.Env)) ⟨rfl, none, rfl⟩ ?_ ?_
  · rintro i x ρ M hx ⟨rfl, o, rfl⟩
    obtain ⟨r, h1, h2, rfl⟩ := map_get hx
    have hm := List.mem_of_getElem? h1
    have hrl := hr r hm
    have hp : 0 < rows.length := by omega
    refine ⟨_, ⟨_, by wtm_at "put_", rfl⟩, ?_⟩
    refine ss_if (pb_w (pw_or' (pb_not (pb_val (pv_callF f_is_table_row r ⟨fun e => by rw [e] at hrl; simp at hrl; omega, by omega⟩ (by wtm_at "args")))) fun _ => pw_o1 (by wtm_at "evb"))) (fun h => ?_) fun _ => ss_nil (ss_nil ⟨rfl, _, rfl⟩)
    have := hr _ (getD_memL hp)
    rw [List.length_map, List.length_map, hrl, this] at h
    simp at h
  · rintro ρ M ⟨rfl, o, rfl⟩
    have hz : rows.length ≤ 100000 := by omega
    refine ss_ret (pv_b1 (pv_lc (lc_nm (l := rows) (inj := rowL) (t := fun _ => true) (g := rowT) (by wtm_at "pin") rfl (by wtm_at "nix") (by wtm_at "wipe_") (by wtm_at "put_") (by dsimp only; decide +kernel) (by wtm_at "sd") (fun a ha => ⟨by wtm_at "pif", fun ht => by wtm_at "ev"⟩))) (b_tupL (by wtm_at "gf"))) ?_
    simp [bodyP, is, flt_all]
/-- entries that lead back -/
abbrev rEntries (K : PySem.W.Frag) : DRel := RelF (fun a : Pl × List (List Nat) × Nat => [planD K a.1, .tup (a.2.1.map rowT), .bl true]) (fun a => a.2.1.length = a.1.kinds.length ∧ (∀ r ∈ a.2.1, r.length = a.2.2 ∧ ∀ c, c < a.2.2 → r.getD c 0 < a.2.2 ∧ r.getD (r.getD c 0) 0 = c)) fun _ => .non
theorem f_need_entries : FnS P w K mg base "need_entries" 1 [] (rEntries K) := by
  refine mk_need_entries (relF_len fun _ => rfl) (relF_body ?_)
  rintro ⟨p, rows, n⟩ ⟨hl, hr⟩
  dsimp only [start0, N_need_entries] at *
  wtm_at "bd"
  refine ss_for (by wtm_at "pin") (by wtm_at "tgn") (fun i ρ M => M = [] ∧ ∃ o1 o2 o3 o4, ρ = ([("plan", some (planD K p)), ("rows", some (.tup (rows.map rowT))), ("turning", some (.bl true)), ("kind", o1), ("row", o2), ("place", o3), ("entry", o4)] : Dl.Env)) ⟨rfl, none, none, none, none, rfl⟩ ?_ ?_
  · rintro i x ρ M hx ⟨rfl, o1, o2, o3, o4, rfl⟩
    obtain ⟨k, r, h1, h2, rfl⟩ := zip_get hx
    obtain ⟨hrl, hrr⟩ := hr r (List.mem_of_getElem? h2)
    refine ⟨_, ⟨_, _, _, _, rfl, by wtm_at "put_", by wtm_at "put_", rfl⟩, ?_⟩
    refine ss_for (by wtm_at "pin") (by wtm_at "tgn") (fun i ρ M => M = [] ∧ ∃ o3 o4, ρ = ([("plan", some (planD K p)), ("rows", some (.tup (rows.map rowT))), ("turning", some (.bl true)), ("kind", some (.str [k])), ("row", some (rowT r)), ("place", o3), ("entry", o4)] : Dl.Env)) ⟨rfl, _, _, rfl⟩ ?_ ?_
    · rintro j x ρ M hx ⟨rfl, o3, o4, rfl⟩
      obtain ⟨a, h3, rfl⟩ := enum_get hx
      obtain ⟨hj, e⟩ := List.getElem?_eq_some_iff.mp h3
      have ea : r.getD j 0 = a := by rw [List.getD_eq_getElem?_getD, h3]; rfl
      obtain ⟨g1, g2⟩ := hrr j (by omega)
      rw [ea] at g1 g2
      refine ⟨_, ⟨_, _, _, _, rfl, by wtm_at "put_", by wtm_at "put_", rfl⟩, ?_⟩
      refine ss_if (by wtm_at "evb") (fun h => ?_) fun _ => ss_nil (ss_nil ⟨rfl, _, _, rfl⟩)
      rw [List.length_map, hrl, g2] at h
      simp at h
      omega
    · rintro ρ M ⟨rfl, o3, o4, rfl⟩
      exact ss_nil ⟨rfl, _, _, _, _, rfl⟩
  · rintro ρ M ⟨rfl, o1, o2, o3, o4, rfl⟩
    exact ss_nil ⟨rfl, rfl⟩
end

section
variable {P : Program} {w : World} {K : PySem.W.Frag} {mg : Str → Option Value} {base : Heap} [Txt K mg]
/-- doors that may be exchanged -/
abbrev rExch (K : PySem.W.Frag) : DRel := RelF (fun a : Pl × List (List Nat) × Nat => [planD K a.1, .tup (a.2.1.map rowT)]) (fun a => a.1.Ok ∧ (a.1.kinds = [] ∨ TabOk a.1 a.2.1 a.2.2) ∧ a.2.2 ≤ 1000 ∧ a.2.1.length = a.1.kinds.length) fun _ => .non
theorem f_need_exchanged : FnS P w K mg base "need_exchanged" 1 [] (rExch K) := by
  refine mk_need_exchanged (relF_len fun _ => rfl) (relF_body ?_)
  rintro ⟨p, rows, n⟩ ⟨hp, hT, hn, hl⟩
  dsimp only [start0, N_need_exchanged] at *
  wtm_at "bd"
  have hrow : rows ≠ [] → (rows.getD 0 []).length = n := fun h => by
    rcases hT with hT | hT
    · rw [hT] at hl; exact absurd (List.length_eq_zero_iff.mp hl) h
    · exact (hT.row _ (getD_memL (List.length_pos_iff.mpr h))).1
  refine ss_set (M1 := []) (by wtm_at "put_") (pv_if (x := .int ((if rows = [] then 0 else n : Nat) : Int)) (by wtm_at "evb") (fun h => ?_) (fun h => ?_)) ?_
  · have h : rows ≠ [] := fun e => by rw [e] at h; simp at h
    have hz : 0 < rows.length := List.length_pos_iff.mpr h
    rw [if_neg h, ← hrow h, ← List.length_map (f := nD)]
    exact pv_b1 (by wtm_at "ev") (b_lenT (by wtm_at "gf"))
  · have h : rows = [] := by simpa using h
    rw [if_pos h]
    exact pv_int
  have hmm : (if rows = [] then 0 else n) ≤ 1000 := by split <;> omega
  obtain ⟨mm, hm2⟩ : ∃ mm, mm = (if rows = [] then 0 else n) := ⟨_, rfl⟩
  rw [← hm2] at hmm ⊢
  refine ss_for (by wtm_at "pin") (by wtm_at "tgn") (fun i ρ M => M = [] ∧ ∃ o1 o2 o3 o4, ρ = ([("plan", some (planD K p)), ("rows", some (.tup (rows.map rowT))), ("many", some (.int (mm : Nat))), ("place", o1), ("pair", o2), ("one", o3), ("other", o4)] : Dl.Env)) ⟨rfl, none, none, none, none, rfl⟩ ?_ ?_
  · rintro i x ρ M hx ⟨rfl, o1, o2, o3, o4, rfl⟩
    obtain ⟨j, h1, h2, rfl⟩ := map_get hx
    have ej : j = i := by
      rw [List.getElem?_range (by simpa using h2)] at h1; exact (Option.some.inj h1).symm
    subst ej
    refine ⟨_, ⟨_, by wtm_at "put_", rfl⟩, ?_⟩
    have hrn : rows ≠ [] := fun e => by rw [hm2, if_pos e] at h2; simp at h2
    rw [hm2, if_neg hrn] at h2
    have hjn : j < n := by simpa using h2
    have hT : TabOk p rows n := by
      rcases hT with hT | hT
      · rw [hT] at hl; exact absurd (List.length_eq_zero_iff.mp hl) hrn
      · exact hT
    refine ss_for (by wtm_at "pin") (by wtm_at "tgn") (fun i ρ M => M = [] ∧ ∃ o2 o3 o4, ρ = ([("plan", some (planD K p)), ("rows", some (.tup (rows.map rowT))), ("many", some (.int (mm : Nat))), ("place", some (.int (j : Nat))), ("pair", o2), ("one", o3), ("other", o4)] : Dl.Env)) ⟨rfl, _, _, _, rfl⟩ ?_ ?_
    · rintro i x ρ M hx ⟨rfl, o2, o3, o4, rfl⟩
      obtain ⟨s, h3, h4, rfl⟩ := map_get hx
      have hs := List.mem_of_getElem? h3
      obtain ⟨a, b, rfl, hab, ha, hb⟩ := hp.two s hs
      have ja : p.kinds.idxOf a < rows.length := by rw [hl]; exact hp.idx ha
      have jb : p.kinds.idxOf b < rows.length := by rw [hl]; exact hp.idx hb
      refine ⟨_, ⟨_, by wtm_at "put_", rfl⟩, ?_⟩
      have e0 : ∀ {c : Cfg} {ρ : Dl.Env} {pos : Pos} {x i : Expr}, PV c x ρ [] (.str [a, b]) [] → PV c i ρ [] (.int 0) [] → PlX i → PV c (.Subscript x i pos) ρ [] (.str [a]) [] := fun h1 h2 h3 => pv_sub h1 h2 (ix_S (by omega) rfl (sz_line (by simp)) h3)
      have e1 : ∀ {c : Cfg} {ρ : Dl.Env} {pos : Pos} {x i : Expr}, PV c x ρ [] (.str [a, b]) [] → PV c i ρ [] (.int 1) [] → PlX i → PV c (.Subscript x i pos) ρ [] (.str [b]) [] := fun h1 h2 h3 => pv_sub h1 h2 (ix_S (by omega) rfl (sz_line (by simp)) h3)
      have ra := hT.row _ (getD_memL ja)
      have rb := hT.row _ (getD_memL jb)
      have ta := (ra.2 j hjn).1
      have tb' := (rb.2 j hjn).1
      obtain ⟨la, _⟩ := ra
      obtain ⟨lb, _⟩ := rb
      refine ss_par2 (by wtm_at "put_") (pns_v (pv_sub (by wtm_at "ev") (pv_find1 (by wtm_at "ev") (e0 (by wtm_at "ev") (by wtm_at "ev") (fun _ _ => rfl)) ha) (by wtm_at "ix_")) (pns_v (pv_sub (by wtm_at "ev") (pv_find1 (by wtm_at "ev") (e1 (by wtm_at "ev") (by wtm_at "ev") (fun _ _ => rfl)) hb) (by wtm_at "ix_")) ?_)) ⟨_, by wtm_at "put_"⟩
      refine ⟨_, _, _, rfl, by wtm_at "put_", ?_⟩
      refine ss_if (by wtm_at "evb") (fun h => ?_) fun _ => ss_nil (ss_nil ⟨rfl, _, _, _, rfl⟩)
      have := hT.com a b hs j hjn
      unfold tb at this
      rw [this] at h
      simp at h
    · rintro ρ M ⟨rfl, o2, o3, o4, rfl⟩
      exact ss_nil ⟨rfl, _, _, _, _, rfl⟩
  · rintro ρ M ⟨rfl, o1, o2, o3, o4, rfl⟩
    exact ss_nil ⟨rfl, rfl⟩
end

section
variable {P : Program} {w : World} {K : PySem.W.Frag} {mg : Str → Option Value} {base : Heap} [Txt K mg]
/-- the places in the order in which they are found -/
abbrev rPlaces (K : PySem.W.Frag) : DRel := RelF (fun a : Pl × List (List Nat) × Nat × Nat => [.tup (a.2.1.map rowT), .int (a.2.2.2 : Nat)]) (fun a => a.2.2.2 < a.2.2.1 ∧ a.2.2.1 ≤ 1000 ∧ (∀ r ∈ a.2.1, r.length = a.2.2.1 ∧ ∀ c, c < a.2.2.1 → r.getD c 0 < a.2.2.1)) fun a => rowL (placesN a.2.1 a.2.2.1 a.2.2.2)
theorem f_found_places : FnS P w K mg base "found_places" 1 [] (rPlaces K) := by
  refine mk_found_places (relF_len fun _ => rfl) (relF_body ?_)
  rintro ⟨p, rows, n, c0⟩ ⟨hc, hn, hr⟩
  dsimp only [start0, N_found_places] at *
  wtm_at "bd"
  have hrr : ∀ r ∈ rows, ∀ c, c < n → r.getD c 0 < n := fun r h => (hr r h).2
  have hb : BInv rows n 0 [c0] := ⟨by simp, fun x hx => by rw [List.mem_singleton.mp hx]; exact hc, by simp, fun j hj => absurd hj (Nat.not_lt_zero _)⟩
  refine ss_setN (by wtm_at "put_") (pn_imp (pn_lst (by wtm_at "args") (sz_line (by simp))) ?_)
  rintro _ _ ⟨q, rfl, rfl⟩
  refine ss_setN (by wtm_at "put_") (pn_imp (pn_disp fun _ => by wtm_at "disp") ?_)
  rintro _ _ ⟨s, rfl, rfl⟩
  wtm_at "sset"
  refine ss_while (fun m ρ M => ∃ i f, m = n + 1 - i ∧ BInv rows n i f ∧ bfs rows (n + 1 - i) i f = placesN rows n c0 ∧ M = [(s, .dK (setD f)), (q, .lst (f.map nD))] ∧ ∃ o1 o2, ρ = ([("rows", some (.tup (rows.map rowT))), ("first", some (.int (c0 : Nat))), ("found", some (.ref q)), ("seen", some (.ref s)), ("at", some (.int (i : Nat))), ("row", o1), ("place", o2)] : Dl.Env)) (n := n + 1) ⟨0, [c0], rfl, hb, rfl, rfl, none, none, rfl⟩ ?_
  rintro m ρ M ⟨i, f, rfl, hB, hf, rfl, o1, o2, rfl⟩
  refine ⟨_, _, by wtm_at "evb", fun hk => ?_, fun hk => ?_⟩
  · rw [List.length_map] at hk
    have hi : i < f.length := by simpa using hk
    have hfn := hB.len
    have hm := getD_memD hi
    have hmn := hB.lt _ hm
    have hin : n + 1 - i = (n - i) + 1 := by omega
    refine ss_for (by wtm_at "pin") (by wtm_at "tgn") (fun j ρ M => M = [(s, .dK (setD ((rows.take j).foldl (addN (f.getD i 0)) f))), (q, .lst (((rows.take j).foldl (addN (f.getD i 0)) f).map nD))] ∧ ∃ o1 o2, ρ = ([("rows", some (.tup (rows.map rowT))), ("first", some (.int (c0 : Nat))), ("found", some (.ref q)), ("seen", some (.ref s)), ("at", some (.int (i : Nat))), ("row", o1), ("place", o2)] : Dl.Env)) ⟨rfl, _, _, rfl⟩ ?_ ?_
    · rintro j x ρ M hx ⟨rfl, o1, o2, rfl⟩
      obtain ⟨r, h1, h2, rfl⟩ := map_get hx
      have hrm := List.mem_of_getElem? h1
      obtain ⟨rl, rn⟩ := hr r hrm
      have hpre := foldN_pre (f.getD i 0) (rows.take j) f
      have hg0 := getD_pre hpre hi
      have hgl := hpre.length_le
      have hnd := foldN_nodup (f.getD i 0) (rows := rows.take j) hB.nd
      have hlt : ∀ x ∈ (rows.take j).foldl (addN (f.getD i 0)) f, x < n := fun x hx => by
        rcases foldN_mem _ hx with q | ⟨r', q1, rfl⟩
        · exact hB.lt x q
        · exact hrr r' (List.mem_of_mem_take q1) _ hmn
      have hgn : ((rows.take j).foldl (addN (f.getD i 0)) f).length ≤ n := by
        have := len_sub (l' := List.range n) hnd fun a ha => List.mem_range.mpr (hlt a ha)
        rwa [List.length_range] at this
      have hstep : (rows.take (j + 1)).foldl (addN (f.getD i 0)) f = addN (f.getD i 0) ((rows.take j).foldl (addN (f.getD i 0)) f) r := by
        rw [List.take_add_one, h1, List.foldl_append]; rfl
      generalize (rows.take j).foldl (addN (f.getD i 0)) f = g at *
      have hig : i < g.length := by omega
      have hgr : g.getD i 0 < r.length := by rw [hg0, rl]; exact hmn
      refine ⟨_, ⟨_, by wtm_at "put_", rfl⟩, ?_⟩
      refine ss_set (by wtm_at "put_") (by wtm_at "ev") ?_
      refine ss_if (by wtm_at "evb") (fun h => ?_) fun h => ?_
      · rw [look_set] at h
        have hy : r.getD (g.getD i 0) 0 ∉ g := by simpa using h
        have hgs : (setD g).length < sizeLine := sz_lt (by simp; omega)
        refine ss_dput (by wtm_at "ev") (by wtm_at "ev") (by wtm_at "ev") (by wtm_at "key_") (by wtm_at "mat_") (by wtm_at "mput_") hgs ?_
        rw [put_set hy]
        refine ss_expr (pv_append (by wtm_at "ev") (by wtm_at "mat_") (by wtm_at "ev") (by wtm_at "mat_") (by wtm_at "mput_") (by wtm_at "sd")) ?_
        refine ss_nil (ss_nil ⟨?_, _, _, rfl⟩)
        rw [hstep]
        unfold addN
        rw [← hg0, if_neg hy]
        simp
      · rw [look_set] at h
        have hy : r.getD (g.getD i 0) 0 ∈ g := by simpa using h
        refine ss_nil (ss_nil ⟨?_, _, _, rfl⟩)
        rw [hstep]
        unfold addN
        rw [← hg0, if_pos hy]
    · rintro ρ M ⟨rfl, o1, o2, rfl⟩
      rw [List.length_map, List.take_length]
      refine ss_augI (by wtm_at "at_") (by wtm_at "put_") (by wtm_at "ev") (ss_nil ⟨n + 1 - (i + 1), by omega, i + 1, visit rows f i, rfl, hB.step hi hrr, ?_, rfl, _, _, rfl⟩)
      rw [← hf, hin, show n + 1 - (i + 1) = n - i by omega]
      exact (if_pos hi).symm
  · rw [List.length_map] at hk
    have hi : ¬ i < f.length := by simpa using hk
    have e : placesN rows n c0 = f := by
      rw [← hf]
      cases h : n + 1 - i with
      | zero => rfl
      | succ m => exact if_neg hi
    rw [e]
    refine ss_ret (pv_drop (pv_frzL (by wtm_at "ev") (by wtm_at "mcut_")) (by wtm_at "mcut_")) ⟨rfl, rfl⟩
end

section
variable {P : Program} {w : World} {K : PySem.W.Frag} {mg : Str → Option Value} {base : Heap} [Txt K mg]
/-- tables numbered as the places are found -/
abbrev rNumbered (K : PySem.W.Frag) : DRel := RelF (fun a : Pl × List (List Nat) × Nat × Nat => [.tup (a.2.1.map rowT), .int (a.2.2.2 : Nat)]) (fun a => TabOk a.1 a.2.1 a.2.2.1 ∧ a.2.2.2 < a.2.2.1 ∧ a.2.2.1 ≤ 1000 ∧ a.1.kinds.length ≤ 8) fun a => .tup ((numR a.2.1 (placesN a.2.1 a.2.2.1 a.2.2.2)).map rowT)
theorem f_numbered_rows : FnS P w K mg base "numbered_rows" 2 [] (rNumbered K) := by
  refine mk_numbered_rows (relF_len fun _ => rfl) (relF_body ?_)
  rintro ⟨p, rows, n, c0⟩ ⟨hT, hc, hn, h8⟩
  dsimp only [start0, N_numbered_rows] at *
  wtm_at "bd"
  obtain ⟨hf, h1, h2, h3⟩ := placesN_ok hT hc
  have hr := hT.row
  have hlen : (placesN rows n c0).length ≤ n := by
    have := len_sub (l' := List.range n) hf.nd fun a ha => List.mem_range.mpr (hf.lt a ha)
    rwa [List.length_range] at this
  have hrl := hT.len
  refine ss_set (by wtm_at "put_") (pv_callF f_found_places (p, rows, n, c0) ⟨hc, hn, fun r h => ⟨(hr r h).1, fun c hc => ((hr r h).2 c hc).1⟩⟩ (by wtm_at "args")) ?_
  generalize placesN rows n c0 = f at *
  refine ss_setE (by wtm_at "put_") (pn_v (pv_dc (l := f.zipIdx) (t := fun _ => true) (gk := fun a : Nat × Nat => Sum.inl (a.1 : Int)) (gv := fun a : Nat × Nat => .int (a.2 : Int)) (dc_nm2 (inj1 := fun a : Nat × Nat => .int (a.2 : Int)) (inj2 := fun a : Nat × Nat => nD a.1) (by wtm_at "pin") trivial (enum_zip _) (by wtm_at "nix") (by wtm_at "nix") (by wtm_at "wipe_") (by wtm_at "put_") (fun o => by wtm_at "put_") (by dsimp only; decide +kernel) (sz_line (by simp; omega)) (fun a ha => ⟨PIf.nil, fun _ => ⟨⟨_, by wtm_at "ev", by exact rfl⟩, by wtm_at "ev"⟩⟩))) ?_)
  rw [dcAcc_nd (by
    have e : f.zipIdx.map (fun a : Nat × Nat => (Sum.inl (a.1 : Int) : DK)) = (f.zipIdx.map Prod.fst).map fun x : Nat => (Sum.inl (x : Int) : DK) := by rw [List.map_map]; rfl
    rw [e, List.zipIdx_map_fst]
    exact List.pairwise_map.mpr (hf.nd.imp fun h e => h (inl_inj _ _ e)))]
  have hlk : ∀ x ∈ f, look (numD f) (Sum.inl (x : Int)) = some (D.int (f.idxOf x : Nat)) := fun x hx => by
    have := look_num (k := 0) hx
    rwa [Nat.zero_add] at this
  have hz : f.length ≤ 100000 := by omega
  have hz2 : rows.length ≤ 100000 := by omega
  refine ss_ret (pv_b1 (pv_lc (lc_nm (l := rows) (inj := rowT) (t := fun _ => true) (g := fun r => .tup ((f.filter fun _ => true).map fun c => nD (f.idxOf (r.getD c 0)))) (by wtm_at "pin") rfl (by wtm_at "nix") (by wtm_at "wipe_") (by wtm_at "put_") (by dsimp only; decide +kernel) (by wtm_at "sd") (fun r hr' => ⟨PIf.nil, fun _ => 
    pv_b1 (pv_lc (lc_nm (l := f) (inj := nD) (t := fun _ => true) (g := fun c => nD (f.idxOf (r.getD c 0))) (by wtm_at "pin") rfl (by wtm_at "nix") (by wtm_at "wipe_") (by wtm_at "put_") (by dsimp only; decide +kernel) (by wtm_at "sd") (fun c hc' => ⟨PIf.nil, fun _ => pv_sub (by wtm_at "ev") (pv_sub (by wtm_at "ev") (by wtm_at "ev") (ix_nT (by have h := (hr r hr').1; have h2 := hf.lt c hc'; omega))) (ix_D (j := Sum.inl _) rfl (hlk _ (hf.cl c hc' r hr')))⟩))) (b_tupL (by wtm_at "gf"))⟩))) (b_tupL (by wtm_at "gf"))) ?_
  simp [bodyP, is, flt_all, numR]
end

/-! ### rooms and closed floors: the walk -/
def walkN (p : Pl) (rows : List (List Nat)) (c : Nat) (way : List Nat) : Nat := way.foldl (fun c k => tb p rows k c) c
section
variable {P : Program} {w : World} {K : PySem.W.Frag} {mg : Str → Option Value} {base : Heap} [Txt K mg]
abbrev closedF (K : PySem.W.Frag) (p : Pl) (rows : List (List Nat)) (m : Nat) : List (Str × D) := [("plan", planD K p), ("tables", .tup (rows.map rowT)), ("own_places", rowT (List.range m))]
abbrev closedD (K : PySem.W.Frag) (p : Pl) (rows : List (List Nat)) (m : Nat) : D := .obj (He.ga K "Closed") (closedF K p rows m)
abbrev roomF (K : PySem.W.Frag) (p : Pl) (name : List Nat) : List (Str × D) := [("plan", planD K p), ("name", .str name)]
abbrev roomD (K : PySem.W.Frag) (p : Pl) (name : List Nat) : D := .obj (He.ga K "Room") (roomF K p name)
abbrev rClosed (K : PySem.W.Frag) : DRel := RelI (He.ga K "Closed") (fun a : Pl × List (List Nat) × Nat => [planD K a.1, .lst (a.2.1.map rowL)]) (fun a => a.1.Ok ∧ TabOk a.1 a.2.1 a.2.2 ∧ a.2.2 ≤ 1000 ∧ (a.1.kinds = [] → a.2.2 = 1)) fun a => closedF K a.1 (numR a.2.1 (placesN a.2.1 a.2.2 0)) (placesN a.2.1 a.2.2 0).length
theorem f_Closed : MkS P w K mg base "Closed" (He.ga K "Closed") 4 [] (rClosed K) := by
  refine mk_Closed_init (relI_len fun _ => rfl) (relI_body ?_)
  rintro ⟨p, rows, n⟩ s ⟨hp, hT, hn, h1⟩
  dsimp only [start0, N_Closed_init] at *
  wtm_at "bd"
  have h8 := hp.len
  have hl := hT.len
  have h0 := hT.pos
  obtain ⟨hf, f0, f1, f2⟩ := placesN_ok hT h0
  have hlen : (placesN rows n 0).length ≤ n := by
    have := len_sub (l' := List.range n) hf.nd fun a ha => List.mem_range.mpr (hf.lt a ha)
    rwa [List.length_range] at this
  refine ss_set (by wtm_at "put_") (pv_callF f_table_rows (p, rows, n) ⟨hl, fun r hr => (hT.row r hr).1, h0, hn, h8⟩ (by wtm_at "args")) ?_
  refine ss_expr (pv_callF f_need_entries (p, rows, n) ⟨hl, hT.row⟩ (by wtm_at "args")) ?_
  refine ss_expr (pv_callF f_need_exchanged (p, rows, n) ⟨hp, .inr hT, hn, hl⟩ (by wtm_at "args")) ?_
  refine ss_fldF (by wtm_at "ev") (by wtm_at "ev") (by wtm_at "mat_") (by wtm_at "gf") (by simp) (by wtm_at "pf_") (by wtm_at "mput_") ?_
  refine ss_fldF (pv_callF f_numbered_rows (p, rows, n, 0) ⟨hT, h0, hn, h8⟩ (by wtm_at "args")) (by wtm_at "ev") (by wtm_at "mat_") (by wtm_at "gf") (by simp) (by wtm_at "pf_") (by wtm_at "mput_") ?_
  have hnl : (numR rows (placesN rows n 0)).length = rows.length := by unfold numR; exact List.length_map _
  refine ss_fldF (pv_tupRg (n := ((placesN rows n 0).length : Nat)) (pv_if (M2 := [(s, .ins (He.ga K "Closed") [("plan", planD K p), ("tables", .tup ((numR rows (placesN rows n 0)).map rowT))])]) (by wtm_at "evb") (fun h => ?_) (fun h => ?_)) (by omega) (by omega) (by wtm_at "gf") (by wtm_at "gf")) (by wtm_at "ev") (by wtm_at "mat_") (by wtm_at "gf") (by simp) (by wtm_at "pf_") (by wtm_at "mput_") ?_
  · rw [List.length_map, hnl] at h
    have hz : 0 < (numR rows (placesN rows n 0)).length := by rw [hnl]; simpa using h
    have e : ((numR rows (placesN rows n 0)).getD 0 []).length = (placesN rows n 0).length := (((hT.num hp hf f1).row _ (getD_memL hz))).1
    rw [← e, ← List.length_map (f := nD)]
    exact pv_b1 (by wtm_at "ev") (b_lenT (by wtm_at "gf"))
  · rw [List.length_map, hnl] at h
    have hz : rows.length = 0 := by simpa using h
    have hk : p.kinds = [] := List.length_eq_zero_iff.mp (by omega)
    have e : ((placesN rows n 0).length : Int) = 1 := by have := h1 hk; omega
    rw [e]
    exact pv_int
  exact ss_nil ⟨rfl, by rw [Int.toNat_natCast]⟩
abbrev rLen (K : PySem.W.Frag) : DRel := RelF (fun a : Pl × List (List Nat) × Nat => [closedD K a.1 a.2.1 a.2.2]) (fun _ => True) fun a => .int (a.2.2 : Nat)
theorem f_Closed_len : MtS P w K mg base (He.ga K "Closed") "__len__" 1 [] (rLen K) := by
  refine mk_Closed_len (relF_len fun _ => rfl) (relF_body ?_)
  rintro ⟨p, rows, m⟩ _
  dsimp only [start0, N_Closed_len] at *
  wtm_at "bd"
  refine ss_ret (by wtm_at "ev") ?_
  simp [bodyP, is]
abbrev rWalked (K : PySem.W.Frag) : DRel := RelF (fun a : Pl × List (List Nat) × Nat × Nat × List Nat => [closedD K a.1 a.2.1 a.2.2.1, .int (a.2.2.2.1 : Nat), .str a.2.2.2.2]) (fun a => TabOk a.1 a.2.1 a.2.2.1 ∧ a.2.2.2.1 < a.2.2.1 ∧ ∀ k ∈ a.2.2.2.2, k ∈ a.1.kinds) fun a => .int (walkN a.1 a.2.1 a.2.2.2.1 a.2.2.2.2 : Nat)
theorem tb_lt {p : Pl} {rows : List (List Nat)} {n k c : Nat} (hT : TabOk p rows n) (hk : k ∈ p.kinds) (hc : c < n) : tb p rows k c < n := by
  have : p.kinds.idxOf k < rows.length := by rw [hT.len]; exact List.idxOf_lt_length_iff.mpr hk
  exact ((hT.row _ (getD_memL this)).2 c hc).1
theorem walk_lt {p : Pl} {rows : List (List Nat)} {n : Nat} (hT : TabOk p rows n) : ∀ {way : List Nat} {c : Nat}, (∀ k ∈ way, k ∈ p.kinds) → c < n → walkN p rows c way < n
  | [], _, _, hc => hc
  | k :: way, c, hk, hc => walk_lt hT (way := way) (fun k h => hk k (List.mem_cons_of_mem _ h)) (tb_lt hT (hk k (List.mem_cons_self ..)) hc)
theorem f_walked : MtS P w K mg base (He.ga K "Closed") "walked" 1 [] (rWalked K) := by
  refine mk_Closed_walked (relF_len fun _ => rfl) (relF_body ?_)
  rintro ⟨p, rows, m, c, way⟩ ⟨hT, hc, hk⟩
  dsimp only [start0, N_Closed_walked] at *
  wtm_at "bd"
  wtm_at "sset"
  refine ss_for (by wtm_at "pin") (by wtm_at "tgn") (fun i ρ M => M = [] ∧ ∃ o, ρ = ([("self", some (closedD K p rows m)), ("place", some (.int (c : Nat))), ("way", some (.str way)), ("found", some (.int (walkN p rows c (way.take i) : Nat))), ("kind", o)] : Dl.Env)) ⟨rfl, none, rfl⟩ ?_ ?_
  · rintro i x ρ M hx ⟨rfl, o, rfl⟩
    obtain ⟨k, h1, h2, rfl⟩ := map_get hx
    have hkm := hk k (List.mem_of_getElem? h1)
    have hi : p.kinds.idxOf k < rows.length := by rw [hT.len]; exact List.idxOf_lt_length_iff.mpr hkm
    have hr := (hT.row _ (getD_memL hi)).1
    have hw := walk_lt hT (way := way.take i) (fun k h => hk k (List.mem_of_mem_take h)) hc
    refine ⟨_, ⟨_, by wtm_at "put_", rfl⟩, ?_⟩
    refine ss_set (by wtm_at "put_") (by wtm_at "ev") (ss_nil ⟨rfl, some (.str [k]), ?_⟩)
    rw [List.take_add_one, h1]
    simp [walkN, tb]
  · rintro ρ M ⟨rfl, o, rfl⟩
    rw [List.length_map, List.take_length]
    exact ss_ret (by wtm_at "ev") ⟨rfl, rfl⟩
abbrev rAt (K : PySem.W.Frag) : DRel := RelF (fun a : Pl × List (List Nat) × Nat × List Nat => [closedD K a.1 a.2.1 a.2.2.1, roomD K a.1 a.2.2.2]) (fun a => a.1.Ok ∧ TabOk a.1 a.2.1 a.2.2.1 ∧ ∀ k ∈ a.2.2.2, k ∈ a.1.kinds) fun a => .int (walkN a.1 a.2.1 0 a.2.2.2 : Nat)
theorem f_at : MtS P w K mg base (He.ga K "Closed") "at" 4 [] (rAt K) := by
  refine mk_Closed_at (relF_len fun _ => rfl) (relF_body ?_)
  rintro ⟨p, rows, m, name⟩ ⟨hp, hT, hk⟩
  dsimp only [start0, N_Closed_at] at *
  wtm_at "bd"
  refine ss_expr (pv_callF f_need_same (p, p) ⟨hp, rfl⟩ (by wtm_at "args")) ?_
  refine ss_ret (pv_methF (by wtm_at "ev") f_walked (p, rows, m, 0, name) ⟨hT, hT.pos, hk⟩ (by wtm_at "args") (hl := by wtm_at "lno")) ⟨rfl, rfl⟩
abbrev rRoom (K : PySem.W.Frag) : DRel := RelI (He.ga K "Room") (fun a : Pl × List Nat => [planD K a.1, .str a.2]) (fun a => (∀ k ∈ a.2, k ∈ a.1.kinds) ∧ a.2.length ≤ 2000) fun a => roomF K a.1 (joinN a.1 [] a.2)
theorem f_Room : MkS P w K mg base "Room" (He.ga K "Room") 3 [] (rRoom K) := by
  refine mk_Room_init (relI_len fun _ => rfl) (relI_body ?_)
  rintro ⟨p, way⟩ s ⟨hk, hl⟩
  dsimp only [start0, N_Room_init] at *
  wtm_at "bd"
  refine ss_fldF (by wtm_at "ev") (by wtm_at "ev") (by wtm_at "mat_") (by wtm_at "gf") (by simp) (by wtm_at "pf_") (by wtm_at "mput_") ?_
  refine ss_fldF (pv_callF f_joined (p, [], way) ⟨hk, by simp; omega⟩ (pas_cons (by wtm_at "ev") (pas_cons (by wtm_at "ev") (pas1 (pv_callF f_need_way (p, way) ⟨hk, hl⟩ (by wtm_at "args")))))) (by wtm_at "ev") (by wtm_at "mat_") (by wtm_at "gf") (by simp) (by wtm_at "pf_") (by wtm_at "mput_") ?_
  exact ss_nil ⟨rfl, rfl⟩
abbrev rRoomAdd (K : PySem.W.Frag) : DRel := RelF (fun a : Pl × List Nat × List Nat => [roomD K a.1 a.2.1, .str a.2.2]) (fun a => (∀ k ∈ a.2.2, k ∈ a.1.kinds) ∧ (∀ k ∈ a.2.1, k ∈ a.1.kinds) ∧ a.2.1.length + a.2.2.length ≤ 2000) fun a => roomD K a.1 (joinN a.1 [] (joinN a.1 a.2.1 a.2.2))
theorem f_Room_add : MtS P w K mg base (He.ga K "Room") "__add__" 5 [] (rRoomAdd K) := by
  refine mk_Room_add (relF_len fun _ => rfl) (relF_body ?_)
  rintro ⟨p, name, way⟩ ⟨hk, hn, hl⟩
  dsimp only [start0, N_Room_add] at *
  wtm_at "bd"
  have h1 := joinN_len p way name
  refine ss_ret (pv_makeI f_Room (p, joinN p name way) ⟨joinN_in hn hk, by dsimp only; omega⟩ (pas_cons (by wtm_at "ev") (pas1 (pv_callF f_joined (p, name, way) ⟨hk, by dsimp only; omega⟩ (pas_cons (by wtm_at "ev") (pas_cons (by wtm_at "ev") (pas1 (pv_callF f_need_way (p, way) ⟨hk, by dsimp only; omega⟩ (by wtm_at "args"))))))))) ⟨rfl, rfl⟩
end

/-! ### ways: the walk -/
abbrev fwD (acc : Fws) : List (DK × D) := acc.map fun kv : Nat × List Nat => (Sum.inl (kv.1 : Int), D.str kv.2)
theorem look_fw {c : Nat} : ∀ {acc : Fws}, look (fwD acc) (Sum.inl (c : Int)) = (lookN acc c).map D.str
  | [] => rfl
  | (a, w) :: acc => by
    show (if (Sum.inl (a : Int) : DK) = Sum.inl (c : Int) then some (D.str w) else look (fwD acc) _) = _
    unfold lookN
    by_cases e : a = c
    · subst e; rw [if_pos rfl]; simp
    · rw [if_neg fun q => e (inl_inj _ _ q), look_fw]
      unfold lookN
      rw [List.find?_cons_of_neg (by simpa using e)]
theorem setd_fw {acc : Fws} {k : Nat} {v : List Nat} : setd (fwD acc) (Sum.inl (k : Int)) (D.str v) = fwD (setN acc k v) := by
  unfold setd setN
  have h : (look (fwD acc) (Sum.inl (k : Int))).isSome = true ↔ k ∈ acc.map (·.1) := by
    rw [look_fw, Option.isSome_map]; exact lookN_some
  by_cases e : k ∈ acc.map (·.1)
  · rw [if_pos e, if_pos (h.mpr e)]
  · rw [if_neg e, if_neg fun q => e (h.mp q)]
    unfold put
    rw [if_neg fun q => e (h.mp q)]
    simp [fwD]
section
variable {P : Program} {w : World} {K : PySem.W.Frag} {mg : Str → Option Value} {base : Heap} [Txt K mg]
local macro_rules | `(tactic| wtm_at "b11") => `(tactic| ((with_reducible show B1 _ "len" _ _ _ (D.obj _ _) _ _ _ _ _); exact b_lenO f_Closed_len ⟨(_, _, _), rfl, trivial, rfl, rfl, rfl⟩ (by wtm_at "sd") (by wtm_at "sd") (by wtm_at "gf")))
abbrev rFirst (K : PySem.W.Frag) : DRel := RelF (fun a : Pl × List (List Nat) × Nat => [closedD K a.1 a.2.1 a.2.2]) (fun a => a.1.Ok ∧ Canon a.1 a.2.1 a.2.2 ∧ a.2.2 ≤ 100) fun a => .lst (txs ((List.range a.2.2).map (fw a.1 a.2.1 a.2.2)))
theorem f_first_ways : MtS P w K mg base (He.ga K "Closed") "first_ways" 3 [] (rFirst K) := by
  refine mk_Closed_first_ways (relF_len fun _ => rfl) (relF_body ?_)
  rintro ⟨p, rows, m⟩ ⟨hp, hC, hm⟩
  dsimp only [start0, N_Closed_first_ways] at *
  wtm_at "bd"
  have hn : p.kinds.Nodup := hp.asc.imp Nat.ne_of_lt
  have hl := hC.tab.len
  refine ss_setE (by wtm_at "put_") (pn_imp (pn_disp fun _ => by wtm_at "disp") ?_)
  rintro _ _ ⟨q, rfl, rfl⟩
  refine ss_for (by wtm_at "pin") (by wtm_at "tgn") (fun i ρ M => M = [(q, .dK (fwD (fwN p rows i)))] ∧ ∃ o1 o2 o3, ρ = ([("self", some (closedD K p rows m)), ("found", some (.ref q)), ("place", o1), ("kind", o2), ("row", o3)] : Dl.Env)) ⟨rfl, none, none, none, rfl⟩ ?_ ?_
  · rintro i x ρ M hx ⟨rfl, o1, o2, o3, rfl⟩
    try dsimp only at hx
    obtain ⟨c, h1, h2, rfl⟩ := map_get hx
    rw [List.length_range, Int.toNat_natCast] at h2
    have ec : c = i := by
      rw [Int.toNat_natCast, List.getElem?_range h2] at h1; exact (Option.some.inj h1).symm
    subst ec
    obtain ⟨a1, a2⟩ := fwN_ok hp hC c (by omega)
    have hin := hC.in_ h2
    have hcm : c ∈ (fwN p rows c).map (·.1) := by
      have z := getD_memD hin
      rw [pre_range (hC.pre (by omega)) hin] at z
      rw [a2]; exact z
    obtain ⟨w0, hw⟩ := Option.isSome_iff_exists.mp (lookN_some.mpr hcm)
    have hwl := a1.len _ (lookN_mem hw)
    dsimp only at hwl
    have a1' : FwOk p rows (c + 1) (fwN p rows c) := ⟨fun kv z => Nat.le_succ_of_le (a1.len kv z), a1.ins, a1.wlk⟩
    refine ⟨_, ⟨_, by wtm_at "put_", rfl⟩, ?_⟩
    refine ss_for (by wtm_at "pin") (by wtm_at "tgn") (fun j ρ M => M = [(q, .dK (fwD (((p.kinds.zip rows).take j).foldl (fwRow c) (fwN p rows c))))] ∧ ∃ o2 o3, ρ = ([("self", some (closedD K p rows m)), ("found", some (.ref q)), ("place", some (.int (c : Nat))), ("kind", o2), ("row", o3)] : Dl.Env)) ⟨rfl, _, _, rfl⟩ ?_ ?_
    · rintro j x ρ M hx ⟨rfl, o2, o3, rfl⟩
      obtain ⟨k, r, h3, h4, rfl⟩ := zip_get hx
      have hz : (p.kinds.zip rows)[j]? = some (k, r) := List.getElem?_zip_eq_some.mpr ⟨h3, h4⟩
      obtain ⟨b1, b2, b3⟩ := fwStep_ok (m := c) (c := c) hn hl (krs := (p.kinds.zip rows).take j) (fun _ h => List.mem_of_mem_take h) a1' ⟨w0, hw, hwl⟩
      have hstep : ((p.kinds.zip rows).take (j + 1)).foldl (fwRow c) (fwN p rows c) = fwRow c (((p.kinds.zip rows).take j).foldl (fwRow c) (fwN p rows c)) (k, r) := by
        rw [List.take_add_one, hz, List.foldl_append]; rfl
      rw [hw] at b2
      have hrow := hC.tab.row r (List.mem_of_getElem? h4)
      have hcr : c < r.length := by rw [hrow.1]; exact h2
      have hkeys : (((p.kinds.zip rows).take j).foldl (fwRow c) (fwN p rows c)).length ≤ m := by
        have h5 := b3
        have h6 : (((p.kinds.zip rows).take j).foldl (fwRow c) (fwN p rows c)).length = ((((p.kinds.zip rows).take j).map (·.2)).foldl (addN c) (vis rows c)).length := by
          rw [← a2, ← b3, List.length_map]
        rw [h6]
        have hpre := hC.pre (c := c) (by omega)
        have hnd : (vis rows c).Nodup := hpre.sublist.nodup List.nodup_range
        have hnd2 := foldN_nodup c (rows := ((p.kinds.zip rows).take j).map (·.2)) hnd
        have := len_sub (l' := List.range m) hnd2 fun a ha => by
          rcases foldN_mem c ha with z | ⟨r', z1, rfl⟩
          · exact hpre.subset z
          · obtain ⟨kr, z2, rfl⟩ := List.mem_map.mp z1
            have z3 := List.mem_of_mem_take z2
            have z4 : kr.2 ∈ rows := (List.of_mem_zip z3).2
            exact List.mem_range.mpr ((hC.tab.row _ z4).2 c h2).1
        rwa [List.length_range] at this
      generalize ((p.kinds.zip rows).take j).foldl (fwRow c) (fwN p rows c) = acc at *
      have hlk : look (fwD acc) (Sum.inl (c : Int)) = some (D.str w0) := by rw [look_fw, b2]; rfl
      have hsz : (fwD acc).length < sizeLine := sz_lt (by simp; omega)
      refine ⟨_, ⟨_, _, _, _, rfl, by wtm_at "put_", by wtm_at "put_", rfl⟩, ?_⟩
      refine ss_expr (d := ((look (fwD acc) (Sum.inl (r.getD c 0 : Int))).getD (.str (w0 ++ [k])))) (M1 := [(q, MO.dK (setd (fwD acc) (Sum.inl (r.getD c 0 : Int)) (.str (w0 ++ [k]))))]) (pv_setd (j := Sum.inl (r.getD c 0 : Int)) (p := q) (M1 := [(q, MO.dK (fwD acc))]) (M2 := [(q, MO.dK (fwD acc))]) (M3 := [(q, MO.dK (fwD acc))]) (y := .int (r.getD c 0 : Nat)) (z := .str (w0 ++ [k])) (by wtm_at "ev") (by wtm_at "mat_") (by wtm_at "ev") rfl ?_ (by wtm_at "mat_") (by wtm_at "mput_") hsz rfl) ?_
      · refine pv_bin (M1 := [(q, MO.dK (fwD acc))]) (M2 := [(q, MO.dK (fwD acc))]) (x := .str w0) (y := .str [k]) ?_ ?_ ?_
        · refine pv_sub (M1 := [(q, MO.dK (fwD acc))]) (M2 := [(q, MO.dK (fwD acc))]) (x := .ref q) (y := .int (c : Nat)) ?_ ?_ ?_
          · wtm_at "ev"
          · wtm_at "ev"
          · exact ix_DM (j := Sum.inl _) (by wtm_at "mat_") rfl hlk
        · wtm_at "ev"
        · exact o_cat (sz_line (by simp; omega))
      refine ss_nil ⟨?_, _, _, rfl⟩
      rw [hstep, setd_fw]
      show [(q, MO.dK (fwD (setN acc (r.getD c 0) (w0 ++ [k]))))] = [(q, MO.dK (fwD (setN acc (r.getD c 0) ((lookN acc c).getD [] ++ [k]))))]
      rw [b2]; rfl
    · rintro ρ M ⟨rfl, o2, o3, rfl⟩
      refine ss_nil ⟨?_, _, _, _, rfl⟩
      rw [zip_len, List.length_map, List.length_map, ← List.length_zip, List.take_length, fwN_succ]; rfl
  · rintro ρ M ⟨rfl, o1, o2, o3, rfl⟩
    have hm2 : m ≤ 100000 := by omega
    have hmz : (List.range ((m : Int)).toNat).length ≤ sizeLine := sz_line (by simp; omega)
    try dsimp only
    rw [List.length_map, List.length_range, Int.toNat_natCast]
    refine ss_ret (pv_drop (M1 := [(q, .dK (fwD (fwN p rows m)))]) (pv_lc (lc_nm (l := List.range ((m : Int)).toNat) (inj := fun i => .int (i : Nat)) (t := fun _ => true) (g := fun i => .str (fw p rows m i)) (by wtm_at "pin") rfl (by wtm_at "nix") (by wtm_at "wipe_") (by wtm_at "put_") (by dsimp only; decide +kernel) hmz ?_)) (by wtm_at "mcut_")) ?_
    · intro c hc
      refine ⟨PIf.nil, fun _ => ?_⟩
      have h9 : look (fwD (fwN p rows m)) (Sum.inl (c : Int)) = some (.str (fw p rows m c)) := by
        rw [look_fw, (fw_ok hp hC (c := c) (by simpa using hc)).1]; rfl
      exact pv_sub (x := .ref q) (y := .int (c : Nat)) (M1 := [(q, .dK (fwD (fwN p rows m)))]) (M2 := [(q, .dK (fwD (fwN p rows m)))]) (by wtm_at "ev") (by wtm_at "ev") (ix_DM (j := Sum.inl _) (by wtm_at "mat_") rfl h9)
    simp [bodyP, is, flt_all, txs]
abbrev setS (ns : List (List Nat)) : List (DK × D) := ns.map fun s => (Sum.inr s, D.bl true)
theorem look_setS {y : List Nat} : ∀ {ns : List (List Nat)}, (look (setS ns) (Sum.inr y)).isSome = decide (y ∈ ns)
  | [] => rfl
  | a :: ns => by
    show (if (Sum.inr a : DK) = Sum.inr y then some (D.bl true) else look (setS ns) _).isSome = _
    by_cases e : a = y
    · subst e; rw [if_pos rfl]; simp
    · rw [if_neg fun q => e (inr_inj _ _ q), look_setS]
      simp [Ne.symm e]
theorem put_setS {ns : List (List Nat)} {y : List Nat} : put (setS ns) (Sum.inr y) (D.bl true) = setS (addS ns y) := by
  unfold put addS
  rw [look_setS]
  by_cases h : y ∈ ns
  · rw [if_pos (decide_eq_true h), if_pos h]
    unfold setS
    rw [List.map_map]
    refine List.map_congr_left fun a _ => ?_
    simp only [Function.comp]
    split <;> rfl
  · rw [decide_eq_false h, if_neg (by simp), if_neg h]
    simp [setS]
end

abbrev lensI (ns : List (List Nat)) : List Int := ns.map fun s => (s.length : Int)
def mxI (ns : List (List Nat)) : Int := mostD (fun i => (lensI ns).getD i 0) (lensI ns).length 0
theorem most_spec (f : Nat → Int) : ∀ (k j : Nat) (m : Int), (most f k j m = m ∨ ∃ i, j ≤ i ∧ i < j + k ∧ most f k j m = f i) ∧ m ≤ most f k j m ∧ ∀ i, j ≤ i → i < j + k → f i ≤ most f k j m
  | 0, j, m => ⟨.inl rfl, Int.le_refl _, fun i a b => by omega⟩
  | k + 1, j, m => by
    obtain ⟨h1, h2, h3⟩ := most_spec f k (j + 1) (if f j > m then f j else m)
    have e : most f (k + 1) j m = most f k (j + 1) (if f j > m then f j else m) := rfl
    rw [← e] at h1 h2 h3
    refine ⟨?_, ?_, fun i a b => ?_⟩
    · rcases h1 with h1 | ⟨i, a, b, h1⟩
      · by_cases q : f j > m
        · rw [if_pos q] at h1; exact .inr ⟨j, Nat.le_refl _, by omega, h1⟩
        · rw [if_neg q] at h1; exact .inl h1
      · exact .inr ⟨i, by omega, by omega, h1⟩
    · refine Int.le_trans ?_ h2; split <;> omega
    · by_cases q : i = j
      · subst q; refine Int.le_trans ?_ h2; split <;> omega
      · exact h3 i (by omega) (by omega)
theorem mxI_spec (ns : List (List Nat)) : (ns = [] → mxI ns = 0) ∧ (∀ s ∈ ns, (s.length : Int) ≤ mxI ns) ∧ (ns ≠ [] → ∃ s ∈ ns, mxI ns = s.length) := by
  have g : ∀ i, i < ns.length → ∃ s ∈ ns, (lensI ns).getD i 0 = s.length ∧ ns[i]? = some s := fun i hi => ⟨ns[i], List.getElem_mem hi, by simp [List.getD_eq_getElem?_getD, hi], by simp [hi]⟩
  have hl : (lensI ns).length = ns.length := List.length_map _
  refine ⟨fun e => by rw [e]; rfl, fun s hs => ?_, fun hn => ?_⟩
  · unfold mxI
    rw [hl]
    obtain ⟨i, hi, e⟩ := List.mem_iff_getElem.mp hs
    have e2 : (lensI ns).getD i 0 = s.length := by simp [List.getD_eq_getElem?_getD, hi, e]
    cases hk : ns.length with
    | zero => omega
    | succ k =>
      obtain ⟨_, h2, h3⟩ := most_spec (fun i => (lensI ns).getD i 0) k 1 ((lensI ns).getD 0 0)
      show _ ≤ most _ k 1 _
      rw [← e2]
      by_cases q : i = 0
      · subst q; exact h2
      · exact h3 i (by omega) (by omega)
  · unfold mxI
    rw [hl]
    cases hk : ns.length with
    | zero => exact absurd (List.length_eq_zero_iff.mp hk) hn
    | succ k =>
      obtain ⟨h1, _, _⟩ := most_spec (fun i => (lensI ns).getD i 0) k 1 ((lensI ns).getD 0 0)
      show ∃ s ∈ ns, most _ k 1 _ = _
      rcases h1 with h1 | ⟨i, a, b, h1⟩
      · obtain ⟨s, a, b, _⟩ := g 0 (by omega)
        exact ⟨s, a, h1.trans b⟩
      · obtain ⟨s, a', b', _⟩ := g i (by omega)
        exact ⟨s, a', h1.trans b'⟩
theorem mxI_pos (ns : List (List Nat)) : 0 ≤ mxI ns := by
  obtain ⟨h1, h2, h3⟩ := mxI_spec ns
  by_cases e : ns = []
  · rw [h1 e]; exact Int.le_refl _
  · obtain ⟨s, _, q⟩ := h3 e
    rw [q]; omega
def bucket (ns : List (List Nat)) (L : Nat) : List (List Nat) := sortL (ns.filter fun s => decide ((s.length : Int) = (L : Int)))
def shortF (ns : List (List Nat)) : List (List Nat) := (List.range ((mxI ns) + 1).toNat).flatMap (bucket ns)
theorem bucket_len (ns : List (List Nat)) (L : Nat) : (bucket ns L).length ≤ ns.length := by
  unfold bucket sortL
  rw [List.length_mergeSort]
  exact List.length_filter_le _ _
theorem flat_len {α β : Type} (f : α → List β) (n : Nat) : ∀ l : List α, (∀ a ∈ l, (f a).length ≤ n) → (l.flatMap f).length ≤ l.length * n
  | [], _ => by simp
  | a :: l, h => by
    rw [List.flatMap_cons, List.length_append, List.length_cons, Nat.succ_mul]
    have h1 := h a (List.mem_cons_self ..)
    have h2 := flat_len f n l fun b hb => h b (List.mem_cons_of_mem _ hb)
    omega
section
variable {P : Program} {w : World} {K : PySem.W.Frag} {mg : Str → Option Value} {base : Heap} [Txt K mg]
abbrev rShort : DRel := RelF (fun ns : List (List Nat) => [.lst (txs ns)]) (fun ns => ns.length < 64 ∧ ∀ s ∈ ns, s.length ≤ 1000) fun ns => .lst (txs (shortF ns))
theorem f_short_first : FnS P w K mg base "short_first" 1 [] rShort := by
  refine mk_short_first (relF_len fun _ => rfl) (relF_body ?_)
  rintro ns ⟨hn, hs⟩
  dsimp only [start0, N_short_first] at *
  wtm_at "bd"
  have hz : ns.length ≤ 100000 := by omega
  have hmx := mxI_pos ns
  have hmx2 : mxI ns ≤ 1000 := by
    obtain ⟨h1, h2, h3⟩ := mxI_spec ns
    by_cases e : ns = []
    · rw [h1 e]; decide
    · obtain ⟨s, a, q⟩ := h3 e
      rw [q]; have := hs s a; omega
  refine ss_set (M1 := []) (by wtm_at "put_") (pv_maxD (ns := lensI ns) (pv_eq (pv_lc (lc_nm (l := ns) (inj := D.str) (t := fun _ => true) (g := fun s => .int (s.length : Nat)) (by wtm_at "pin") rfl (by wtm_at "nix") (by wtm_at "wipe_") (by wtm_at "put_") (by dsimp only; decide +kernel) (by wtm_at "sd") (fun s h => ⟨PIf.nil, fun _ => by (have h2 := hs s h); wtm_at "ev"⟩))) (by rw [flt_all, List.map_map]; rfl)) (by wtm_at "ev") (by wtm_at "gf")) ?_
  rw [show mostD (fun i => (lensI ns).getD i 0) (lensI ns).length 0 = mxI ns from rfl]
  generalize hM : mxI ns = mx at *
  refine ss_setN (by wtm_at "put_") (pn_imp (pn_lst (by wtm_at "args")) ?_)
  rintro _ _ ⟨q, rfl, rfl⟩
  refine ss_for (by wtm_at "pin") (by wtm_at "tgn") (fun i ρ M => M = [(q, .lst (txs ((List.range i).flatMap (bucket ns))))] ∧ ∃ o, ρ = ([("names", some (.lst (txs ns))), ("most", some (.int mx)), ("name", none), ("found", some (.ref q)), ("length", o)] : Dl.Env)) ⟨rfl, none, rfl⟩ ?_ ?_
  · rintro i x ρ M hx ⟨rfl, o, rfl⟩
    try dsimp only at hx
    obtain ⟨L, h1, h2, rfl⟩ := map_get hx
    have ec : L = i := by
      rw [List.getElem?_range (by simpa using h2)] at h1; exact (Option.some.inj h1).symm
    subst ec
    rw [List.length_range] at h2
    refine ⟨_, ⟨_, by wtm_at "put_", rfl⟩, ?_⟩
    have hb : (ns.filter fun s => decide ((s.length : Int) = (L : Int))).length < 64 := by
      have := List.length_filter_le (fun s : List Nat => decide ((s.length : Int) = (L : Int))) ns
      omega
    have hfl := flat_len (bucket ns) 63 (List.range L) fun a _ => by have := bucket_len ns a; omega
    rw [List.length_range] at hfl
    have hbl := bucket_len ns L
    refine ss_expr (pv_extend (ys := txs (bucket ns L)) (M2 := [(q, .lst (txs ((List.range L).flatMap (bucket ns))))]) (by wtm_at "ev") (by wtm_at "mat_") (pv_b1 (pv_lc (lc_nm (l := ns) (inj := D.str) (t := fun s => decide ((s.length : Int) = (L : Int))) (g := D.str) (by wtm_at "pin") rfl (by wtm_at "nix") (by wtm_at "wipe_") (by wtm_at "put_") (by dsimp only; decide +kernel) (by wtm_at "sd") (fun s h => ⟨PIf.one (by (have h2 := hs s h); wtm_at "evb"), fun _ => by wtm_at "ev"⟩))) (b_sortS (ls := ns.filter fun s => decide ((s.length : Int) = (L : Int))) rfl hb (by wtm_at "gf"))) (by wtm_at "mat_") (by wtm_at "mput_") (sz_line (by simp only [txs, List.length_map]; omega))) ?_
    refine ss_nil ⟨?_, _, rfl⟩
    rw [List.range_succ, List.flatMap_append]
    simp [txs]
  · rintro ρ M ⟨rfl, o, rfl⟩
    try dsimp only
    rw [List.length_map, List.length_range]
    refine ss_ret (pv_frzL (by wtm_at "ev") (by wtm_at "mcut_")) ⟨?_, rfl⟩
    unfold shortF
    rw [hM]
end

section
variable {P : Program} {w : World} {K : PySem.W.Frag} {mg : Str → Option Value} {base : Heap} [Txt K mg]
local macro_rules | `(tactic| wtm_at "b11") => `(tactic| ((with_reducible show B1 _ "len" _ _ _ (D.obj _ _) _ _ _ _ _); exact b_lenO f_Closed_len ⟨(_, _, _), rfl, trivial, rfl, rfl, rfl⟩ (by wtm_at "sd") (by wtm_at "sd") (by wtm_at "gf")))
theorem wayN_ok {p : Pl} {rows : List (List Nat)} {m c : Nat} (hp : p.Ok) (hC : Canon p rows m) (hc : c < m) {kr : Nat × List Nat} (hk : kr ∈ p.kinds.zip rows) : (∀ k ∈ wayN p rows m c kr, k ∈ p.kinds) ∧ (wayN p rows m c kr).length ≤ 2 * m + 1 ∧ kr.2.getD c 0 < m := by
  obtain ⟨k, r⟩ := kr
  obtain ⟨t1, t2⟩ := tb_at (hp.asc.imp Nat.ne_of_lt) hC.tab.len hk c
  have hr : r ∈ rows := (List.of_mem_zip hk).2
  have hcm := ((hC.tab.row r hr).2 c hc).1
  obtain ⟨_, a1, a2, _⟩ := fw_ok hp hC hc
  obtain ⟨_, b1, b2, _⟩ := fw_ok hp hC hcm
  refine ⟨fun x hx => ?_, ?_, hcm⟩
  · unfold wayN at hx
    rcases List.mem_append.mp hx with hx | hx
    · rcases List.mem_append.mp hx with hx | hx
      · exact a2 x hx
      · rw [List.mem_singleton.mp hx]; exact t2
    · exact b2 x (List.mem_reverse.mp hx)
  · unfold wayN
    simp only [List.length_append, List.length_reverse, List.length_singleton]
    omega
theorem addS_len (ns : List (List Nat)) (s : List Nat) : (addS ns s).length ≤ ns.length + 1 := by
  unfold addS; split <;> simp
theorem addS_mem {ns : List (List Nat)} {s x : List Nat} (h : x ∈ addS ns s) : x ∈ ns ∨ x = s := by
  unfold addS at h; split at h
  · exact .inl h
  · rcases List.mem_append.mp h with h | h
    · exact .inl h
    · exact .inr (List.mem_singleton.mp h)
def namesF (p : Pl) (rows : List (List Nat)) (m c : Nat) (krs : List (Nat × List Nat)) (ns : List (List Nat)) : List (List Nat) := krs.foldl (fun ns kr => addS ns (joinN p [] (wayN p rows m c kr))) ns
theorem namesF_len (p : Pl) (rows : List (List Nat)) (m c : Nat) : ∀ (krs : List (Nat × List Nat)) (ns : List (List Nat)), (namesF p rows m c krs ns).length ≤ ns.length + krs.length
  | [], ns => Nat.le_refl _
  | kr :: krs, ns => by
    have h1 := namesF_len p rows m c krs (addS ns (joinN p [] (wayN p rows m c kr)))
    have h2 := addS_len ns (joinN p [] (wayN p rows m c kr))
    show (namesF p rows m c krs (addS ns (joinN p [] (wayN p rows m c kr)))).length ≤ _
    rw [List.length_cons]; omega
theorem namesN_succ (p : Pl) (rows : List (List Nat)) (m c : Nat) : namesN p rows m (c + 1) = namesF p rows m c (p.kinds.zip rows) (namesN p rows m c) := by
  unfold namesN; rw [List.range_succ, List.foldl_append]; rfl
theorem namesN_len {p : Pl} {rows : List (List Nat)} {m k : Nat} (hl : (p.kinds.zip rows).length ≤ k) : ∀ c, (namesN p rows m c).length ≤ c * k
  | 0 => by simp [namesN]
  | c + 1 => by
    rw [namesN_succ, Nat.succ_mul]
    have h1 := namesF_len p rows m c (p.kinds.zip rows) (namesN p rows m c)
    have h2 := namesN_len hl (m := m) c
    omega
/-- what holds of each name -/
theorem names_all {p : Pl} {rows : List (List Nat)} {m : Nat} {G : List Nat → Prop} (h : ∀ c, c < m → ∀ kr ∈ p.kinds.zip rows, G (joinN p [] (wayN p rows m c kr))) : ∀ c, c ≤ m → ∀ s ∈ namesN p rows m c, G s
  | 0, _, s, hs => by cases hs
  | c + 1, hc, s, hs => by
    rw [namesN_succ] at hs
    have key : ∀ (krs : List (Nat × List Nat)) (ns : List (List Nat)), (∀ kr ∈ krs, kr ∈ p.kinds.zip rows) → (∀ s ∈ ns, G s) → ∀ s ∈ namesF p rows m c krs ns, G s := by
      intro krs
      induction krs with
      | nil => intro ns _ hn s hs; exact hn s hs
      | cons kr krs ih =>
        intro ns hk hn s hs
        refine ih _ (fun q hq => hk q (List.mem_cons_of_mem _ hq)) (fun x hx => ?_) s hs
        rcases addS_mem hx with q | rfl
        · exact hn x q
        · exact h c (by omega) kr (hk kr (List.mem_cons_self ..))
    exact key _ _ (fun _ h => h) (names_all h c (by omega)) s hs
def waysF (p : Pl) (rows : List (List Nat)) (m : Nat) : List (List Nat) := (shortF (namesN p rows m m)).filter fun s => !decide (s = [])
abbrev rWays (K : PySem.W.Frag) : DRel := RelF (fun a : Pl × List (List Nat) × Nat => [closedD K a.1 a.2.1 a.2.2]) (fun a => a.1.Ok ∧ Canon a.1 a.2.1 a.2.2 ∧ a.2.2 ≤ 40 ∧ a.2.2 * a.1.kinds.length < 64) fun a => .tup (txs (waysF a.1 a.2.1 a.2.2))
theorem f_ways : MtS P w K mg base (He.ga K "Closed") "ways" 5 [] (rWays K) := by
  refine mk_Closed_ways (relF_len fun _ => rfl) (relF_body ?_)
  rintro ⟨p, rows, m⟩ ⟨hp, hC, hm, hk⟩
  dsimp only [start0, N_Closed_ways] at *
  wtm_at "bd"
  have hl := hC.tab.len
  have h8 := hp.len
  have hzl : (p.kinds.zip rows).length ≤ p.kinds.length := by rw [List.length_zip]; omega
  have hF : ∀ c, c < m → ((List.range m).map (fw p rows m)).getD c [] = fw p rows m c := fun c hc => by simp [List.getD_eq_getElem?_getD, hc]
  refine ss_set (M1 := []) (by wtm_at "put_") (pv_methF0 (by wtm_at "ev") f_first_ways (p, rows, m) ⟨hp, hC, by dsimp only; omega⟩ (hl := by wtm_at "lno")) ?_
  dsimp only
  refine ss_setN (by wtm_at "put_") (pn_imp pn_dct ?_)
  rintro _ _ ⟨q, rfl, rfl⟩
  refine ss_for (by wtm_at "pin") (by wtm_at "tgn") (fun i ρ M => M = [(q, .dK (setS (namesN p rows m i)))] ∧ ∃ o1 o2 o3 o4, ρ = ([("self", some (closedD K p rows m)), ("first", some (.lst (txs ((List.range m).map (fw p rows m))))), ("names", some (.ref q)), ("place", o1), ("kind", o2), ("row", o3), ("back", o4), ("letter", none), ("name", none)] : Dl.Env)) ⟨rfl, none, none, none, none, rfl⟩ ?_ ?_
  · rintro i x ρ M hx ⟨rfl, o1, o2, o3, o4, rfl⟩
    try dsimp only at hx
    obtain ⟨c, h1, h2, rfl⟩ := map_get hx
    rw [List.length_range, Int.toNat_natCast] at h2
    have ec : c = i := by
      rw [Int.toNat_natCast, List.getElem?_range h2] at h1; exact (Option.some.inj h1).symm
    subst ec
    refine ⟨_, ⟨_, by wtm_at "put_", rfl⟩, ?_⟩
    refine ss_for (by wtm_at "pin") (by wtm_at "tgn") (fun j ρ M => M = [(q, .dK (setS (namesF p rows m c ((p.kinds.zip rows).take j) (namesN p rows m c))))] ∧ ∃ o2 o3 o4, ρ = ([("self", some (closedD K p rows m)), ("first", some (.lst (txs ((List.range m).map (fw p rows m))))), ("names", some (.ref q)), ("place", some (.int (c : Nat))), ("kind", o2), ("row", o3), ("back", o4), ("letter", none), ("name", none)] : Dl.Env)) ⟨rfl, _, _, _, rfl⟩ ?_ ?_
    · rintro j x ρ M hx ⟨rfl, o2, o3, o4, rfl⟩
      obtain ⟨k, r, h3, h4, rfl⟩ := zip_get hx
      have hz : (p.kinds.zip rows)[j]? = some (k, r) := List.getElem?_zip_eq_some.mpr ⟨h3, h4⟩
      have hzm := List.mem_of_getElem? hz
      obtain ⟨w1, w2, w3⟩ := wayN_ok hp hC h2 hzm
      obtain ⟨_, u1, u2, _⟩ := fw_ok hp hC h2
      obtain ⟨_, v1, v2, _⟩ := fw_ok hp hC w3
      have hstep : namesF p rows m c ((p.kinds.zip rows).take (j + 1)) (namesN p rows m c) = addS (namesF p rows m c ((p.kinds.zip rows).take j) (namesN p rows m c)) (joinN p [] (wayN p rows m c (k, r))) := by
        unfold namesF
        rw [List.take_add_one, hz, List.foldl_append]; rfl
      have hcr : c < r.length := by rw [(hC.tab.row r (List.mem_of_getElem? h4)).1]; exact h2
      have hnl : (namesF p rows m c ((p.kinds.zip rows).take j) (namesN p rows m c)).length ≤ 1000 := by
        have e1 := namesF_len p rows m c ((p.kinds.zip rows).take j) (namesN p rows m c)
        have e2 := namesN_len (m := m) hzl c
        rw [List.length_take] at e1
        have : c * p.kinds.length ≤ m * p.kinds.length := Nat.mul_le_mul_right _ (by omega)
        omega
      generalize namesF p rows m c ((p.kinds.zip rows).take j) (namesN p rows m c) = ns at *
      have hi1 : r.getD c 0 < ((List.range m).map (fw p rows m)).length := by simpa using w3
      have hi2 : c < ((List.range m).map (fw p rows m)).length := by simpa using h2
      have hsz : (fw p rows m (r.getD c 0)).length ≤ 100000 := by dsimp only at v1; omega
      try dsimp only at w2
      try dsimp only at v1
      try dsimp only at u1
      refine ⟨_, ⟨_, _, _, _, rfl, by wtm_at "put_", by wtm_at "put_", rfl⟩, ?_⟩
      have hE : ∀ (cc : Cfg) (ρ : Dl.Env) (M : Mem) (e : Expr), PV cc e ρ M (.str (((List.range m).map (fw p rows m)).getD (r.getD c 0) [])) M → PV cc e ρ M (.str (fw p rows m (r.getD c 0))) M := fun cc ρ M e h => by rwa [hF _ w3] at h
      refine ss_set (M1 := [(q, .dK (setS ns))]) (d := .str (fw p rows m (r.getD c 0)).reverse) (by wtm_at "put_") (pv_join1 (by wtm_at "ev") (pv_lc (lc_nm (l := (fw p rows m (r.getD c 0)).reverse) (inj := fun k => .str [k]) (t := fun _ => true) (g := fun k => .str [k]) (pin_of (pv_rev (hE _ _ _ _ (by wtm_at "ev")) (by wtm_at "rv_")) px_str) rfl (by wtm_at "nix") (by wtm_at "wipe_") (by wtm_at "put_") (by dsimp only; decide +kernel) (by rw [List.length_reverse]; exact sz_line hsz) (fun s h => ⟨PIf.nil, fun _ => by wtm_at "ev"⟩))) (by rw [flt_all]) (by rw [List.length_reverse]; omega)) ?_
      have hG : ∀ (cc : Cfg) (ρ : Dl.Env) (M : Mem) (e : Expr), PV cc e ρ M (.str (((List.range m).map (fw p rows m)).getD c [])) M → PV cc e ρ M (.str (fw p rows m c)) M := fun cc ρ M e h => by rwa [hF _ h2] at h
      refine ss_dput (d := .bl true) (M1 := [(q, .dK (setS ns))]) (M2 := [(q, .dK (setS ns))]) (M3 := [(q, .dK (setS ns))]) (by wtm_at "ev") (by wtm_at "ev") (pv_att (pv_makeI f_Room (p, wayN p rows m c (k, r)) ⟨w1, by dsimp only; omega⟩ (pas_cons (by wtm_at "ev") (pas1 (pv_bin (pv_bin (hG _ _ _ _ (by wtm_at "ev")) (by wtm_at "ev") (o_cat (sz_line (by rw [List.length_singleton]; omega)))) (by wtm_at "ev") (o_cat (sz_line (by rw [List.length_append, List.length_singleton, List.length_reverse]; omega))))))) (by wtm_at "fd_")) (by wtm_at "key_") (by wtm_at "mat_") (by wtm_at "mput_") (sz_lt (by simp; omega)) ?_
      refine ss_nil ⟨?_, _, _, _, rfl⟩
      rw [hstep, put_setS]
    · rintro ρ M ⟨rfl, o2, o3, o4, rfl⟩
      refine ss_nil ⟨?_, _, _, _, _, rfl⟩
      rw [zip_len, List.length_map, List.length_map, ← List.length_zip, List.take_length, namesN_succ]
  · rintro ρ M ⟨rfl, o1, o2, o3, o4, rfl⟩
    try dsimp only
    rw [List.length_map, List.length_range, Int.toNat_natCast]
    have hnl : (namesN p rows m m).length < 64 := by have := namesN_len (m := m) hzl m; omega
    have hns : ∀ s ∈ namesN p rows m m, s.length ≤ 1000 := names_all (G := fun s => s.length ≤ 1000) (fun c hc kr hkr => by
      have h1 := (wayN_ok hp hC hc hkr).2.1
      have h2 := joinN_len p (wayN p rows m c kr) []
      rw [List.length_nil] at h2
      omega) m (Nat.le_refl m)
    have hsl : (shortF (namesN p rows m m)).length ≤ 100000 := by
      unfold shortF
      have := flat_len (bucket (namesN p rows m m)) 63 (List.range ((mxI (namesN p rows m m)) + 1).toNat) fun a _ => by have := bucket_len (namesN p rows m m) a; omega
      rw [List.length_range] at this
      have hmx2 : mxI (namesN p rows m m) ≤ 1000 := by
        obtain ⟨h1, h2, h3⟩ := mxI_spec (namesN p rows m m)
        by_cases e : namesN p rows m m = []
        · rw [h1 e]; decide
        · obtain ⟨s, a, q⟩ := h3 e
          rw [q]; have := hns s a; omega
      omega
    refine ss_ret (pv_drop (M1 := [(q, .dK (setS (namesN p rows m m)))]) (pv_b1 (pv_lc (lc_nm (l := shortF (namesN p rows m m)) (inj := D.str) (t := fun s => !decide (s = [])) (g := D.str) (pin_of (pv_callF f_short_first (namesN p rows m m) ⟨hnl, hns⟩ (pas1 (pv_b1 (by wtm_at "ev") (b_listKM (by wtm_at "mat_") (by wtm_at "gf")))) (by rw [List.map_map]; rfl)) px_lst) rfl (by wtm_at "nix") (by wtm_at "wipe_") (by wtm_at "put_") (by dsimp only; decide +kernel) (by wtm_at "sd") (fun s h => ⟨PIf.one (pb_cmp (by wtm_at "ev") (by wtm_at "ev") o_neS), fun _ => by wtm_at "ev"⟩))) (b_tupL (by wtm_at "gf"))) (by wtm_at "mcut_")) ⟨rfl, rfl⟩
end

/-! ### the law's pen -/
theorem pssn_imp {c : Cfg} {sts : List Stmt} {ρ : Dl.Env} {M : Mem} {P Q : Post} (h : PSsn c sts ρ M P) (h1 : ∀ ρ M, P.nx ρ M → Q.nx ρ M) (h2 : ∀ d M, P.rt d M → Q.rt d M) (h3 : ∀ ρ M, P.bk ρ M → Q.bk ρ M) (h4 : ∀ ρ M, P.ct ρ M → Q.ct ρ M) : PSsn c sts ρ M Q := .mk fun hE => by
  obtain ⟨t, a, b⟩ := h.out hE
  exact ⟨t, a, fun F σ H S L D f => b F σ H S L D ⟨fun F' H' ρ' σ' M' n => f.nx F' H' ρ' σ' M' (h1 _ _ n), fun F' H' v d M' n => f.rt F' H' v d M' (h2 _ _ n), fun F' H' ρ' σ' M' n => f.bk F' H' ρ' σ' M' (h3 _ _ n), fun F' H' ρ' σ' M' n => f.ct F' H' ρ' σ' M' (h4 _ _ n)⟩⟩
/-- both ways of an if go on together -/
theorem ss_ifc {c : Cfg} {e : Expr} {sa sb sts : List Stmt} {ρ : Dl.Env} {M M1 : Mem} {P : Post} {pos : Pos} {k : Bool} (I : Dl.Env → Mem → Prop) (h : PB c e ρ M k M1) (ha : k = true → PSsn c sa ρ M1 { P with nx := I }) (hb : k = false → PSsn c sb ρ M1 { P with nx := I }) (hc : ∀ ρ' M', I ρ' M' → PSsn c sts ρ' M' P) : PSsn c (.If e sa sb pos :: sts) ρ M P :=
  ss_if h (fun q => pssn_imp (ha q) hc (fun _ _ h => h) (fun _ _ h => h) (fun _ _ h => h)) (fun q => pssn_imp (hb q) hc (fun _ _ h => h) (fun _ _ h => h) (fun _ _ h => h))
theorem fl_ints (ns : List Int) : Fls 0 (ns.map D.int) := by
  rw [fls_iff]
  intro x hx
  obtain ⟨n, _, rfl⟩ := List.mem_map.mp hx
  unfold Fl; trivial
structure Pen where
  cells : List Int
  begun : Int
  left : Int
abbrev kCells : DK := Sum.inr ("cells" : Str).cps.toList
abbrev kBegun : DK := Sum.inr ("begun" : Str).cps.toList
abbrev kLeft : DK := Sum.inr ("left" : Str).cps.toList
def penK (p : Pen) : List (DK × D) := [(kCells, .lst (p.cells.map D.int)), (kBegun, .int p.begun), (kLeft, .int p.left)]
theorem ne1 : (kCells : DK) ≠ kBegun := by decide +kernel
theorem ne2 : (kCells : DK) ≠ kLeft := by decide +kernel
theorem ne3 : (kBegun : DK) ≠ kLeft := by decide +kernel
theorem lk_cells (p : Pen) : look (penK p) kCells = some (.lst (p.cells.map D.int)) := if_pos rfl
theorem lk_begun (p : Pen) : look (penK p) kBegun = some (.int p.begun) := (if_neg ne1).trans (if_pos rfl)
theorem lk_left (p : Pen) : look (penK p) kLeft = some (.int p.left) := (if_neg ne2).trans ((if_neg ne3).trans (if_pos rfl))
theorem put_begun (p : Pen) (v : Int) : put (penK p) kBegun (.int v) = penK { p with begun := v } := by
  unfold put
  rw [lk_begun]
  show [if kCells = kBegun then (kCells, D.int v) else (kCells, .lst (p.cells.map D.int)), if kBegun = kBegun then (kBegun, .int v) else (kBegun, .int p.begun), if kLeft = kBegun then (kLeft, .int v) else (kLeft, .int p.left)] = _
  rw [if_neg ne1, if_pos rfl, if_neg (Ne.symm ne3)]; rfl
theorem put_left (p : Pen) (v : Int) : put (penK p) kLeft (.int v) = penK { p with left := v } := by
  unfold put
  rw [lk_left]
  show [if kCells = kLeft then (kCells, D.int v) else (kCells, .lst (p.cells.map D.int)), if kBegun = kLeft then (kBegun, .int v) else (kBegun, .int p.begun), if kLeft = kLeft then (kLeft, .int v) else (kLeft, .int p.left)] = _
  rw [if_neg ne2, if_neg ne3, if_pos rfl]; rfl
def absI (n : Int) : Int := if n < 0 then -n else n
def mixN (cell at_ span : Int) : Int :=
  let n1 := (cell.fmod 4294967029 * 40813 + 31253 * at_ * at_ + 613 * at_ + 11).fmod 4294966997
  let n2 := (n1 * n1 + 49831 * n1 + 59 * at_ + 3).fmod 4294966981
  let n3 := (n2 * n2 + 30271 * n2 + at_).fmod 4294966943
  (((n3 * (n3 + 52639)).fmod 4294966927).fdiv 64).fmod span
def cellP (p : Pen) : Int := if p.cells = [] then 67 * p.begun + 29 else p.cells.getD (p.begun.fmod p.cells.length).toNat 0
def bigP (p : Pen) : Bool := decide (p.begun < p.cells.length) && decide ((10 : Int) ^ 18 ≤ absI (cellP p))
def drawP (p : Pen) (span : Int) : Int × Pen :=
  if 0 < p.left then (p.left.fmod span, { p with left := p.left.fdiv span })
  else if bigP p = true then ((absI (cellP p) - 10 ^ 18).fmod span, { p with begun := p.begun + 1, left := (absI (cellP p) - 10 ^ 18).fdiv span })
  else (mixN (cellP p) p.begun span, { p with begun := p.begun + 1 })
/-- begun so often at most -/
structure PenOk (n : Nat) (p : Pen) : Prop where
  b0 : 0 ≤ p.begun
  b1 : p.begun ≤ n
  few : p.cells.length ≤ 63
theorem fmod_bd (a : Int) {b : Int} (h : 0 < b) : 0 ≤ a.fmod b ∧ a.fmod b < b := ⟨Int.fmod_nonneg_of_pos a h, Int.fmod_lt_of_pos a h⟩
theorem draw_bd (p : Pen) {span : Int} (h : 0 < span) : 0 ≤ (drawP p span).1 ∧ (drawP p span).1 < span := by
  unfold drawP
  split
  · exact fmod_bd _ h
  · split
    · exact fmod_bd _ h
    · exact fmod_bd _ h
theorem draw_ok {n : Nat} {p : Pen} (h : PenOk n p) (span : Int) : PenOk (n + 1) (drawP p span).2 := by
  obtain ⟨a, b, d⟩ := h
  unfold drawP
  split
  · exact ⟨a, by show p.begun ≤ _; omega, d⟩
  · split
    · exact ⟨by show 0 ≤ p.begun + 1; omega, by show p.begun + 1 ≤ _; omega, d⟩
    · exact ⟨by show 0 ≤ p.begun + 1; omega, by show p.begun + 1 ≤ _; omega, d⟩
theorem PenOk.mono {n m : Nat} {p : Pen} (h : PenOk n p) (q : n ≤ m) : PenOk m p := ⟨h.b0, by have := h.b1; omega, h.few⟩
section
variable {P : Program} {w : World} {K : PySem.W.Frag} {mg : Str → Option Value} {base : Heap} [Txt K mg]
abbrev rDraw : DRel := RelO (fun (a : Pen × Int) q => [.ref q, .int a.2]) (fun a => .dK (penK a.1)) (fun a => 0 < a.2 ∧ a.2 < 1000000 ∧ PenOk 1000000 a.1) (fun a => .int (drawP a.1 a.2).1) (fun a => .dK (penK (drawP a.1 a.2).2))
theorem f_draw : FnS P w K mg base "_law_draw" 1 [] rDraw := by
  refine mk_l_draw (relO_len fun _ _ => rfl) (relO_body ?_)
  rintro ⟨pen, span⟩ q ⟨h0, h1, hp⟩
  dsimp only [start0, N_l_draw] at *
  wtm_at "bd"
  have k1 := lk_cells pen
  have k2 := lk_begun pen
  have k3 := lk_left pen
  obtain ⟨b0, b1, few⟩ := hp
  have hdv : ∀ {n : Int}, CDivN n span := ⟨by omega, by omega⟩
  refine ss_if (by wtm_at "evb") (fun hk => ?_) fun hk => ss_nil ?_
  · have hk := of_decide_eq_true hk
    refine ss_set (by wtm_at "put_") (by wtm_at "ev") ?_
    refine ss_dput (pv_bin (by wtm_at "ev") (by wtm_at "ev") (o_fdiv ⟨by omega, by omega⟩)) (by wtm_at "ev") (by wtm_at "ev") (by wtm_at "key_") (by wtm_at "mat_") (by wtm_at "mput_") (sz_lt (by simp [penK])) ?_
    refine ss_ret (by wtm_at "ev") ?_
    unfold drawP
    rw [if_pos hk]
    refine ⟨rfl, ?_⟩
    rw [put_left]
  · have hk := of_decide_eq_false hk
    refine ss_set (by wtm_at "put_") (by wtm_at "ev") ?_
    refine ss_dput (by wtm_at "ev") (by wtm_at "ev") (by wtm_at "ev") (by wtm_at "key_") (by wtm_at "mat_") (by wtm_at "mput_") (sz_lt (by simp [penK])) ?_
    rw [put_begun]
    generalize hpe : ({ pen with begun := pen.begun + 1 } : Pen) = pen1
    have k4 := lk_cells pen1
    have k6 := lk_left pen1
    have e1 : pen1.cells = pen.cells := by rw [← hpe]
    rw [e1] at k4
    refine ss_set (by wtm_at "put_") (pv_bin (pv_bin (by wtm_at "ev") (by wtm_at "ev") (o_mul (.inl ⟨by decide, by decide⟩))) (by wtm_at "ev") o_add) ?_
    refine ss_ifc (fun ρ M => M = [(q, .dK (penK pen1))] ∧ ρ = ([("_law_pen", some (.ref q)), ("_law_span", some (.int span)), ("_law_digit", none), ("_law_at", some (.int pen.begun)), ("_law_cell", some (.int (cellP pen))), ("_law_n", none)] : Dl.Env)) (k := decide (pen.cells ≠ [])) (pb_cmp (by wtm_at "ev") (by wtm_at "ev") (o_neP (n := 1) (m := 1) (pdat (n := 1) (by unfold Fl; exact fl_ints _)) (pdat (n := 1) (x := .lst []) (by unfold Fl; exact fl_ints [])) (by unfold Fl; exact fl_ints _) (by unfold Fl; exact fl_ints []) (by simp))) (fun hc => ?_) (fun hc => ?_) ?_
    · have hc : pen.cells ≠ [] := of_decide_eq_true hc
      have hcl : 0 < pen.cells.length := List.length_pos_iff.mpr hc
      have hb := fmod_bd pen.begun (b := (pen.cells.length : Int)) (by omega)
      refine ss_set (M1 := [(q, .dK (penK pen1))]) (d := .int (cellP pen)) (by wtm_at "put_") (pv_eq (pv_sub (by wtm_at "ev") (pv_bin (by wtm_at "ev") (by wtm_at "ev") (o_mod (by rw [List.length_map]; omega))) (ix_I (l := pen.cells) (by rw [List.length_map]; exact hb.1) (by rw [List.length_map]; exact hb.2))) ?_) (ss_nil ⟨rfl, rfl⟩)
      unfold cellP
      rw [if_neg hc, List.length_map]
    · have hc : pen.cells = [] := by simpa using hc
      refine ss_nil ⟨rfl, ?_⟩
      unfold cellP
      rw [if_pos hc]
    · rintro ρ M ⟨rfl, rfl⟩
      refine ss_if (M1 := [(q, .dK (penK pen1))]) (pb_w (pw_and' (pb_cmp (by wtm_at "ev") (by wtm_at "ev") o_lt) fun _ => pw_a1 (pb_cmp (by wtm_at "ev") (pv_bin (by wtm_at "ev") (by wtm_at "ev") (o_pow ⟨by decide, by decide, by decide⟩)) o_ge))) (fun hb => ?_) (fun hb => ss_nil ?_)
      · rw [List.length_map] at hb
        have hb : bigP pen = true := hb
        refine ss_dput (d := .int ((absI (cellP pen) - 10 ^ 18).fdiv span)) (pv_bin (pv_bin (x := .int (absI (cellP pen))) (by wtm_at "ev") (pv_bin (by wtm_at "ev") (by wtm_at "ev") (o_pow ⟨by decide, by decide, by decide⟩)) o_sub) (by wtm_at "ev") (o_fdiv (m := span) hdv)) (by wtm_at "ev") (by wtm_at "ev") (by wtm_at "key_") (by wtm_at "mat_") (by wtm_at "mput_") (sz_lt (by simp [penK])) ?_
        refine ss_ret (d := .int ((absI (cellP pen) - 10 ^ 18).fmod span)) (pv_bin (pv_b1 (pv_bin (x := .int (absI (cellP pen))) (by wtm_at "ev") (pv_bin (by wtm_at "ev") (by wtm_at "ev") (o_pow ⟨by decide, by decide, by decide⟩)) o_sub) (by wtm_at "b1_")) (by wtm_at "ev") (o_mod (by omega))) ?_
        unfold drawP
        rw [if_neg hk, if_pos hb, put_left, ← hpe]
        exact ⟨rfl, rfl⟩
      · rw [List.length_map] at hb
        have hb : bigP pen = false := hb
        have hat : -(2 ^ 64) < pen.begun ∧ pen.begun < 2 ^ 64 := by omega
        have c1 := fmod_bd (cellP pen) (b := 4294967029) (by decide)
        refine ss_set (M1 := [(q, .dK (penK pen1))]) (by wtm_at "put_") (pv_bin (pv_b1 (pv_bin (pv_bin (pv_bin (pv_bin (pv_bin (by wtm_at "ev") (by wtm_at "ev") (o_mod (by decide))) (by wtm_at "ev") (o_mul (.inr ⟨by decide, by decide⟩))) (pv_bin (pv_bin (by wtm_at "ev") (by wtm_at "ev") (o_mul (.inl ⟨by decide, by decide⟩))) (by wtm_at "ev") (o_mul (.inr hat))) o_add) (pv_bin (by wtm_at "ev") (by wtm_at "ev") (o_mul (.inl ⟨by decide, by decide⟩))) o_add) (by wtm_at "ev") o_add) (by wtm_at "b1_")) (by wtm_at "ev") (o_mod (by decide))) ?_
        have c2 := fmod_bd ((cellP pen).fmod 4294967029 * 40813 + 31253 * pen.begun * pen.begun + 613 * pen.begun + 11) (b := 4294966997) (by decide)
        generalize g1 : ((cellP pen).fmod 4294967029 * 40813 + 31253 * pen.begun * pen.begun + 613 * pen.begun + 11).fmod 4294966997 = n1 at *
        refine ss_set (M1 := [(q, .dK (penK pen1))]) (by wtm_at "put_") (pv_bin (pv_b1 (pv_bin (pv_bin (pv_bin (pv_bin (by wtm_at "ev") (by wtm_at "ev") (o_mul (.inl ⟨by omega, by omega⟩))) (pv_bin (by wtm_at "ev") (by wtm_at "ev") (o_mul (.inl ⟨by decide, by decide⟩))) o_add) (pv_bin (by wtm_at "ev") (by wtm_at "ev") (o_mul (.inl ⟨by decide, by decide⟩))) o_add) (by wtm_at "ev") o_add) (by wtm_at "b1_")) (by wtm_at "ev") (o_mod (by decide))) ?_
        have c3 := fmod_bd (n1 * n1 + 49831 * n1 + 59 * pen.begun + 3) (b := 4294966981) (by decide)
        generalize g2 : (n1 * n1 + 49831 * n1 + 59 * pen.begun + 3).fmod 4294966981 = n2 at *
        refine ss_set (M1 := [(q, .dK (penK pen1))]) (by wtm_at "put_") (pv_bin (pv_b1 (pv_bin (pv_bin (pv_bin (by wtm_at "ev") (by wtm_at "ev") (o_mul (.inl ⟨by omega, by omega⟩))) (pv_bin (by wtm_at "ev") (by wtm_at "ev") (o_mul (.inl ⟨by decide, by decide⟩))) o_add) (by wtm_at "ev") o_add) (by wtm_at "b1_")) (by wtm_at "ev") (o_mod (by decide))) ?_
        have c4 := fmod_bd (n2 * n2 + 30271 * n2 + pen.begun) (b := 4294966943) (by decide)
        generalize g3 : (n2 * n2 + 30271 * n2 + pen.begun).fmod 4294966943 = n3 at *
        refine ss_ret (M1 := [(q, .dK (penK pen1))]) (pv_bin (pv_b1 (pv_bin (pv_bin (pv_b1 (pv_bin (by wtm_at "ev") (pv_bin (by wtm_at "ev") (by wtm_at "ev") o_add) (o_mul (.inl ⟨by omega, by omega⟩))) (by wtm_at "b1_")) (by wtm_at "ev") (o_mod (by decide))) (by wtm_at "ev") (o_fdiv ⟨by decide, by decide⟩)) (by wtm_at "b1_")) (by wtm_at "ev") (o_mod (by omega))) ?_
        unfold drawP
        rw [if_neg hk, if_neg (by rw [hb]; decide), ← hpe]
        refine ⟨?_, rfl⟩
        unfold mixN
        dsimp only
        rw [g1, g2, g3]
end

section
variable {P : Program} {w : World} {K : PySem.W.Frag} {mg : Str → Option Value} {base : Heap} [Txt K mg]
def rBegin : NRel := fun ds M R => ∃ xs : List Int, xs.length ≤ 1000000 ∧ ds = [.arr (xs.map D.int)] ∧ M = [] ∧ R = fun d N => ∃ p, d = .ref p ∧ N = [(p, .dK (penK ⟨xs.take 63, 0, 0⟩))]
theorem f_begin : FnN P w K mg base "_law_begin" 1 rBegin := by
  refine mk_l_begin (fun ds M R ⟨xs, _, e, _⟩ => by rw [e]; rfl) ?_
  rintro ds M R ⟨xs, hx, rfl, rfl, rfl⟩
  dsimp only [start0, N_l_begin]
  wtm_at "bd"
  refine ss_retN (pn_imp (pn_disp (kvs := [(kCells, .lst ((xs.take 63).map D.int)), (kBegun, .int 0), (kLeft, .int 0)]) fun p => .cons (by wtm_at "ev") (by exact rfl) (pv_b1 (pv_eq (pv_slA (by wtm_at "ev") (by wtm_at "part_") (by wtm_at "part_")) (show _ = D.lst ((xs.take 63).map D.int) from congrArg D.lst (by rw [show (some (63 : Int)) = some ((63 : Nat) : Int) from rfl, cut_to, List.map_take]))) (b_listL (by wtm_at "gf"))) (.cons (by wtm_at "ev") (by exact rfl) (by wtm_at "ev") (.cons (by wtm_at "ev") (by exact rfl) (by wtm_at "ev") .nil))) ?_)
  rintro d N ⟨p, rfl, rfl⟩
  refine ⟨p, rfl, ?_⟩
  have e1 : put ([] : List (DK × D)) kCells (.lst ((xs.take 63).map D.int)) = [(kCells, .lst ((xs.take 63).map D.int))] := rfl
  have e : mrg [] [(kCells, .lst ((xs.take 63).map D.int)), (kBegun, .int 0), (kLeft, .int 0)] = penK ⟨xs.take 63, 0, 0⟩ := by
    unfold mrg
    simp only [List.foldl_cons, List.foldl_nil, e1]
    have e2 : put [(kCells, D.lst ((xs.take 63).map D.int))] kBegun (.int 0) = [(kCells, .lst ((xs.take 63).map D.int)), (kBegun, .int 0)] := by
      unfold put
      rw [show look [(kCells, D.lst ((xs.take 63).map D.int))] kBegun = none from (if_neg ne1)]; rfl
    rw [e2]
    unfold put
    rw [show look [(kCells, D.lst ((xs.take 63).map D.int)), (kBegun, .int 0)] kLeft = none from (if_neg ne2).trans (if_neg ne3)]; rfl
  rw [e]
abbrev seqB (b : Bool) (xs : List D) : D := bif b then .lst xs else .tup xs
abbrev pickV (pen : Pen) (xs : List D) : D := xs.getD (drawP pen xs.length).1.toNat .non
abbrev rPick : DRel := RelO (fun (a : Pen × Bool × List D) q => [.ref q, seqB a.2.1 a.2.2]) (fun a => .dK (penK a.1)) (fun a => 0 < a.2.2.length ∧ a.2.2.length < 1000000 ∧ PenOk 1000000 a.1) (fun a => pickV a.1 a.2.2) (fun a => .dK (penK (drawP a.1 a.2.2.length).2))
theorem f_pick : FnS P w K mg base "_law_pick" 2 [] rPick := by
  refine mk_l_pick (relO_len fun _ _ => rfl) (relO_body ?_)
  rintro ⟨pen, b, xs⟩ q ⟨h0, h1, hp⟩
  dsimp only [start0, N_l_pick] at *
  have hb := draw_bd pen (span := (xs.length : Int)) (by omega)
  have hz : xs[(drawP pen (xs.length : Int)).1.toNat]? = some (xs.getD (drawP pen (xs.length : Int)).1.toNat .non) := by
    have : (drawP pen (xs.length : Int)).1.toNat < xs.length := by omega
    simp [List.getD_eq_getElem?_getD, this]
  cases b
  · dsimp only [seqB, cond_false]
    wtm_at "bd"
    refine ss_ret (M1 := [(q, .dK (penK (drawP pen xs.length).2))]) (pv_sub (by wtm_at "ev") (pv_callO f_draw (pen, (xs.length : Int)) ⟨by dsimp only; omega, by dsimp only; omega, hp⟩ (by wtm_at "args") (by wtm_at "mcut_") (by wtm_at "mcut_")) (ix_T hb.1 hz)) ⟨rfl, rfl⟩
  · dsimp only [seqB, cond_true]
    wtm_at "bd"
    refine ss_ret (M1 := [(q, .dK (penK (drawP pen xs.length).2))]) (pv_sub (by wtm_at "ev") (pv_callO f_draw (pen, (xs.length : Int)) ⟨by dsimp only; omega, by dsimp only; omega, hp⟩ (by wtm_at "args") (by wtm_at "mcut_") (by wtm_at "mcut_")) (ix_L hb.1 hz)) ⟨rfl, rfl⟩
end

/-! ### the law's plans -/
structure Scn where
  kinds : List Nat
  pairs : List (List Nat)
def kindF (first step : Int) (k : Nat) : Nat := letters.getD ((first + step * (k : Int)).fmod 26).toNat 0
def kindL (many first step : Int) : List (List Nat) := (List.range many.toNat).map fun k => [kindF first step k]
def kindsS (many first step : Int) : List Nat := (sortL (kindL many first step)).flatten
def menuS (many : Int) (k j : Nat) (d : Int) : List Bool := [false, true, decide ((j : Int) + 1 = k) || (decide ((j : Int) = 0) && decide ((k : Int) = many - 1)), !(decide ((j : Int) + 1 = k) || (decide ((j : Int) = 0) && decide ((k : Int) = many - 1))), decide ((j : Int) = 0), decide ((j : Int) + 1 = k), decide (d = 0)]
def pairStep (many shape : Int) (kinds : List Nat) (k : Nat) (st : List (List Nat) × Pen) (j : Nat) : List (List Nat) × Pen :=
  (if (menuS many k j (drawP st.2 2).1).getD shape.toNat false = true then st.1 ++ [[kinds.getD j 0] ++ [kinds.getD k 0]] else st.1, (drawP st.2 2).2)
def pairRow (many shape : Int) (kinds : List Nat) (st : List (List Nat) × Pen) (k : Nat) : List (List Nat) × Pen := (List.range k).foldl (pairStep many shape kinds k) st
def pairsAll (many shape : Int) (kinds : List Nat) (n : Nat) (pen : Pen) : List (List Nat) × Pen := (List.range n).foldl (pairRow many shape kinds) ([], pen)
def stepV (v : Int) : Int := ([1, 3, 5, 7] : List Int).getD v.toNat 0
def sceneP (pen : Pen) (least most : Int) : Scn × Pen :=
  let d1 := drawP pen (most + 1 - least)
  let d2 := drawP d1.2 26
  let d3 := drawP d2.2 4
  let d4 := drawP d3.2 7
  let kinds := kindsS (least + d1.1) d2.1 (stepV d3.1)
  let r := pairsAll (least + d1.1) d4.1 kinds (least + d1.1).toNat d4.2
  (⟨kinds, r.1⟩, r.2)
theorem letters_at : ∀ i, i < 26 → letters.getD i 0 = i + 97 := by decide
theorem kindF_eq (first step : Int) (k : Nat) : ∃ i : Nat, i < 26 ∧ ((i : Int) = (first + step * (k : Int)).fmod 26) ∧ kindF first step k = i + 97 := by
  obtain ⟨h1, h2⟩ := fmod_bd (first + step * (k : Int)) (b := 26) (by decide)
  refine ⟨((first + step * (k : Int)).fmod 26).toNat, by omega, by omega, letters_at _ (by omega)⟩
theorem stepV_in {v : Int} (h0 : 0 ≤ v) (h1 : v < 4) : stepV v = 1 ∨ stepV v = 3 ∨ stepV v = 5 ∨ stepV v = 7 := by
  have : v = 0 ∨ v = 1 ∨ v = 2 ∨ v = 3 := by omega
  rcases this with rfl | rfl | rfl | rfl
  · exact .inl rfl
  · exact .inr (.inl rfl)
  · exact .inr (.inr (.inl rfl))
  · exact .inr (.inr (.inr rfl))
theorem kindF_ne {first step : Int} (hs : step = 1 ∨ step = 3 ∨ step = 5 ∨ step = 7) {i j : Nat} (hij : i < j) (hj : j < 5) : kindF first step i ≠ kindF first step j := by
  obtain ⟨a, a1, a2, a3⟩ := kindF_eq first step i
  obtain ⟨b, b1, b2, b3⟩ := kindF_eq first step j
  rw [a3, b3]
  intro e
  have e : a = b := by omega
  subst e
  rw [Int.fmod_eq_emod_of_nonneg _ (by decide)] at a2 b2
  have : (i : Int) < j ∧ (j : Int) < 5 := by omega
  rcases hs with rfl | rfl | rfl | rfl <;> omega
theorem sort_single {as : List Nat} (hn : as.Nodup) : ((sortL (as.map fun a => [a])).flatten).Pairwise (· < ·) ∧ ∀ k, k ∈ (sortL (as.map fun a => [a])).flatten ↔ k ∈ as := by
  have hp : (sortL (as.map fun a => [a])).Perm (as.map fun a => [a]) := List.mergeSort_perm _ _
  have hs : (sortL (as.map fun a => [a])).Pairwise fun a b => leS a b = true := List.pairwise_mergeSort leS_trans leS_total _
  obtain ⟨bs, hb⟩ : ∃ bs : List Nat, sortL (as.map fun a => [a]) = bs.map fun a => [a] := by
    refine ⟨(sortL (as.map fun a => [a])).flatten, ?_⟩
    have : ∀ l : List (List Nat), (∀ x ∈ l, ∃ a, x = [a]) → l = l.flatten.map fun a => [a] := by
      intro l
      induction l with
      | nil => intro _; rfl
      | cons x l ih =>
        intro h
        obtain ⟨a, rfl⟩ := h x (List.mem_cons_self ..)
        rw [List.flatten_cons, List.map_append, ← ih fun y hy => h y (List.mem_cons_of_mem _ hy)]
        rfl
    refine this _ fun x hx => ?_
    obtain ⟨a, _, rfl⟩ := List.mem_map.mp (hp.mem_iff.mp hx)
    exact ⟨a, rfl⟩
  rw [hb] at hp hs ⊢
  have hpb : bs.Perm as := by
    have := hp.flatten
    rwa [flat_single, flat_single] at this
  rw [flat_single]
  refine ⟨?_, fun k => hpb.mem_iff⟩
  have hnb : bs.Nodup := hpb.nodup_iff.mpr hn
  have h2 : bs.Pairwise fun a b => leS [a] [b] = true := by rw [List.pairwise_map] at hs; exact hs
  refine (h2.and hnb).imp fun {a b} ⟨h, q⟩ => ?_
  unfold leS at h
  have h : ¬ [b] < [a] := by simpa using h
  have : ¬ b < a := fun e => h (by simpa [List.cons_lt_cons_iff] using e)
  have q : a ≠ b := q
  omega
theorem kinds_ok {many first step : Int} (hm : many.toNat ≤ 5) (hs : step = 1 ∨ step = 3 ∨ step = 5 ∨ step = 7) : (kindsS many first step).Pairwise (· < ·) ∧ (∀ k ∈ kindsS many first step, k ∈ letters) ∧ (kindsS many first step).length = many.toNat := by
  have hn : ((List.range many.toNat).map (kindF first step)).Nodup := by
    rw [List.Nodup, List.pairwise_map]
    refine (List.pairwise_lt_range (n := many.toNat)).imp_of_mem fun {a b} ha hb h => ?_
    exact kindF_ne hs h (by have := List.mem_range.mp hb; omega)
  have e : kindL many first step = ((List.range many.toNat).map (kindF first step)).map fun a => [a] := by unfold kindL; rw [List.map_map]; rfl
  obtain ⟨h1, h2⟩ := sort_single hn
  rw [← e] at h1 h2
  refine ⟨h1, fun k hk => ?_, ?_⟩
  · obtain ⟨i, _, rfl⟩ := List.mem_map.mp ((h2 k).mp hk)
    obtain ⟨a, a1, _, a3⟩ := kindF_eq first step i
    rw [a3]; exact mem_letters ⟨by omega, by omega⟩
  · have g1 := len_sub (l := kindsS many first step) (l' := (List.range many.toNat).map (kindF first step)) (h1.imp Nat.ne_of_lt) fun k hk => (h2 k).mp hk
    have g2 := len_sub (l' := kindsS many first step) hn fun k hk => (h2 k).mpr hk
    rw [List.length_map, List.length_range] at g1 g2
    omega
/-- what holds of the pairs -/
def PairsOk (kinds : List Nat) (st : List (List Nat) × Pen) (n m : Nat) : Prop := (∀ s ∈ st.1, ∃ j k, j < k ∧ k < kinds.length ∧ s = [kinds.getD j 0, kinds.getD k 0]) ∧ st.1.length ≤ m ∧ PenOk (n + m) st.2
theorem pairStep_ok {many shape : Int} {kinds : List Nat} {k j n m : Nat} {st : List (List Nat) × Pen} (h : PairsOk kinds st n m) (hj : j < k) (hk : k < kinds.length) : PairsOk kinds (pairStep many shape kinds k st j) n (m + 1) := by
  obtain ⟨h1, h2, h3⟩ := h
  refine ⟨fun s hs => ?_, ?_, draw_ok h3 2⟩
  · unfold pairStep at hs
    dsimp only at hs
    split at hs
    · rcases List.mem_append.mp hs with q | q
      · exact h1 s q
      · exact ⟨j, k, hj, hk, List.mem_singleton.mp q⟩
    · exact h1 s hs
  · unfold pairStep
    dsimp only
    split
    · simp; omega
    · omega
theorem foldR_ok {many shape : Int} {kinds : List Nat} {k n : Nat} (hk : k < kinds.length) : ∀ (js : Nat) {m : Nat} {st : List (List Nat) × Pen}, js ≤ k → PairsOk kinds st n m → PairsOk kinds ((List.range js).foldl (pairStep many shape kinds k) st) n (m + js)
  | 0, _, _, _, h => h
  | js + 1, m, st, hj, h => by
    rw [List.range_succ, List.foldl_append]
    have := pairStep_ok (many := many) (shape := shape) (foldR_ok (many := many) (shape := shape) hk js (by omega) h) (show js < k by omega) hk
    rwa [Nat.add_assoc] at this
theorem PairsOk.mono {kinds : List Nat} {st : List (List Nat) × Pen} {n m m' : Nat} (h : PairsOk kinds st n m) (q : m ≤ m') : PairsOk kinds st n m' := ⟨h.1, Nat.le_trans h.2.1 q, h.2.2.mono (by omega)⟩
theorem foldA_ok {many shape : Int} {kinds : List Nat} {n : Nat} {st : List (List Nat) × Pen} (h0 : PairsOk kinds st n 0) (hk5 : kinds.length ≤ 5) : ∀ (ks : Nat), ks ≤ kinds.length → PairsOk kinds ((List.range ks).foldl (pairRow many shape kinds) st) n (5 * ks)
  | 0, _ => h0
  | ks + 1, hk => by
    rw [List.range_succ, List.foldl_append]
    have := foldR_ok (many := many) (shape := shape) (k := ks) (by omega) ks (Nat.le_refl _) (foldA_ok (many := many) (shape := shape) h0 hk5 ks (by omega))
    exact this.mono (by omega)
theorem getD_lt {l : List Nat} (h : l.Pairwise (· < ·)) {i j : Nat} (hij : i < j) (hj : j < l.length) : l.getD i 0 < l.getD j 0 := by
  rw [List.getD_eq_getElem?_getD, List.getD_eq_getElem?_getD, List.getElem?_eq_getElem hj, List.getElem?_eq_getElem (by omega)]
  exact List.pairwise_iff_getElem.mp h i j (by omega) hj hij
theorem told_of {kinds : List Nat} {st : List (List Nat) × Pen} {n m : Nat} (h1 : kinds.Pairwise (· < ·)) (h2 : ∀ k ∈ kinds, k ∈ letters) (h3 : kinds.length ≤ 8) (h : PairsOk kinds st n m) : Told kinds st.1 where
  asc := h1
  lo := h2
  len := h3
  two s hs := by
    obtain ⟨j, k, hj, hk, e⟩ := h.1 s hs
    exact ⟨_, _, e, getD_lt h1 hj hk, getD_memD (by omega), getD_memD hk⟩
/-- the scene is as it should be -/
theorem scene_ok {pen : Pen} {least most : Int} {n : Nat} (h : PenOk n pen) (h0 : 0 ≤ least) (h1 : least ≤ most) (h2 : most ≤ 5) : Told (sceneP pen least most).1.kinds (sceneP pen least most).1.pairs ∧ PenOk (n + 29) (sceneP pen least most).2 ∧ (sceneP pen least most).1.kinds.length ≤ most.toNat ∧ least.toNat ≤ (sceneP pen least most).1.kinds.length := by
  have d1 := draw_bd pen (span := most + 1 - least) (by omega)
  have o1 := draw_ok h (most + 1 - least)
  have o2 := draw_ok o1 26
  have d3 := draw_bd (drawP (drawP pen (most + 1 - least)).2 26).2 (span := 4) (by decide)
  have o3 := draw_ok o2 4
  have o4 := draw_ok o3 7
  obtain ⟨k1, k2, k3⟩ := kinds_ok (many := least + (drawP pen (most + 1 - least)).1) (first := (drawP (drawP pen (most + 1 - least)).2 26).1) (by omega) (stepV_in d3.1 d3.2)
  have q := foldA_ok (many := least + (drawP pen (most + 1 - least)).1) (shape := (drawP (drawP (drawP (drawP pen (most + 1 - least)).2 26).2 4).2 7).1) (kinds := kindsS (least + (drawP pen (most + 1 - least)).1) (drawP (drawP pen (most + 1 - least)).2 26).1 (stepV (drawP (drawP (drawP pen (most + 1 - least)).2 26).2 4).1)) (n := n + 1 + 1 + 1 + 1) (st := ([], (drawP (drawP (drawP (drawP pen (most + 1 - least)).2 26).2 4).2 7).2)) ⟨fun s hs => (by cases hs), Nat.le_refl _, o4⟩ (by omega) (least + (drawP pen (most + 1 - least)).1).toNat (by omega)
  have t := told_of k1 k2 (by omega) q
  refine ⟨t, q.2.2.mono (by omega), ?_, ?_⟩
  · show (kindsS _ _ _).length ≤ _; omega
  · show _ ≤ (kindsS _ _ _).length; omega


theorem pb_eq {c : Cfg} {e : Expr} {ρ : Dl.Env} {M M1 : Mem} {k k2 : Bool} (h : PB c e ρ M k M1) (q : k = k2) : PB c e ρ M k2 M1 := q ▸ h
theorem ss_tup3 {c : Cfg} {n1 n2 n3 : Str} {i j k k1 : Nat} {q1 q2 q3 q4 q5 pos : Pos} {x2} {es : List Expr} {sts : List Stmt} {ρ : Dl.Env} {M : Mem} {P : Post} (h1 : c.N[i]? = some n1) (h2 : c.N[j]? = some n2) (h3 : c.N[k]? = some n3) (hd : c.N.Nodup)
    (h : PNs c es ρ M fun ds N => ∃ x y z f1 f2 f3, ds = [x, y, z] ∧ Put ρ n1 f1 ∧ Put (f1 (some x)) n2 f2 ∧ Put (f2 (some y)) n3 f3 ∧ PSsn c sts (f3 (some z)) N P)
    (l1 : LocC c n1 := by first | exact Or.inl rfl | exact Or.inr ⟨rfl, rfl⟩) (l2 : LocC c n2 := by first | exact Or.inl rfl | exact Or.inr ⟨rfl, rfl⟩) (l3 : LocC c n3 := by first | exact Or.inl rfl | exact Or.inr ⟨rfl, rfl⟩)
    (hst : es.all notStar = true := by rfl)
    (hw : ∀ env : PySem.Env, env.scope = c.sc → swappedStores [.Tuple [.Name n1 q1, .Name n2 q2, .Name n3 q3] k1 q4] (.Tuple es x2 q5) env = pure none := by intro env he; unfold swappedStores Env.blockKind Env.kindOf; simp only [he]; rfl)
    (hs : ∀ env : PySem.Env, swapsWithSole [.Tuple [.Name n1 q1, .Name n2 q2, .Name n3 q3] k1 q4] (.Tuple es x2 q5) pos.line env = pure false := by intro _; rfl) : PSsn c (.Assign [.Tuple [.Name n1 q1, .Name n2 q2, .Name n3 q3] k1 q4] (.Tuple es x2 q5) pos :: sts) ρ M P := by
  refine ss_tupT (pgsn_cons (pgn_name h1 hd l1) (pgsn_cons (pgn_name h2 hd l2) (pgsn_cons (pgn_name h3 hd l3) pgsn_nil))) ?_ hst (by intro _; rfl) (by intro _; rfl) hw hs
  have key : ∀ (es : List Expr) (M : Mem) (R R' : List D → Mem → Prop), (∀ ds N, R ds N → R' ds N) → PNs c es ρ M R → PNs c es ρ M R' := by
    intro es
    induction es with
    | nil => intro M R R' hr h; exact hr _ _ h
    | cons e es ih => intro M R R' hr h; exact pn_imp h fun d N q => ih N _ _ (fun ds N' z => hr _ _ z) q
  refine key _ _ _ _ (fun ds N hq => ?_) h
  obtain ⟨x, y, z, f1, f2, f3, rfl, p1, p2, p3, q⟩ := hq
  exact ⟨rfl, sz_line (by simp), _, ⟨x, [y, z], _, rfl, ⟨f1, p1, rfl⟩, y, [z], _, rfl, ⟨f2, p2, rfl⟩, z, [], _, rfl, ⟨f3, p3, rfl⟩, rfl, rfl⟩, q⟩
section
variable {P : Program} {w : World} {K : PySem.W.Frag} {mg : Str → Option Value} {base : Heap} [Txt K mg]
abbrev kKinds : DK := Sum.inr ("kinds" : Str).cps.toList
abbrev kPairs : DK := Sum.inr ("pairs" : Str).cps.toList
abbrev kPlan : DK := Sum.inr ("plan" : Str).cps.toList
abbrev kTwin : DK := Sum.inr ("twin" : Str).cps.toList
def sceneK (K : PySem.W.Frag) (s : Scn) : List (DK × D) := [(kKinds, .str s.kinds), (kPairs, .lst (txs s.pairs)), (kPlan, planD K (mkPl s.kinds s.pairs)), (kTwin, planD K (mkPl s.kinds s.pairs))]
abbrev sceneD (K : PySem.W.Frag) (s : Scn) : D := .dct (sceneK K s)
theorem ns1 : (kKinds : DK) ≠ kPairs := by decide +kernel
theorem ns2 : (kKinds : DK) ≠ kPlan := by decide +kernel
theorem ns3 : (kKinds : DK) ≠ kTwin := by decide +kernel
theorem ns4 : (kPairs : DK) ≠ kPlan := by decide +kernel
theorem ns5 : (kPairs : DK) ≠ kTwin := by decide +kernel
theorem ns6 : (kPlan : DK) ≠ kTwin := by decide +kernel
theorem lk_kinds (s : Scn) : look (sceneK K s) kKinds = some (.str s.kinds) := if_pos rfl
theorem lk_pairs (s : Scn) : look (sceneK K s) kPairs = some (.lst (txs s.pairs)) := (if_neg ns1).trans (if_pos rfl)
theorem lk_plan (s : Scn) : look (sceneK K s) kPlan = some (planD K (mkPl s.kinds s.pairs)) := (if_neg ns2).trans ((if_neg ns4).trans (if_pos rfl))
theorem lk_twin (s : Scn) : look (sceneK K s) kTwin = some (planD K (mkPl s.kinds s.pairs)) := (if_neg ns3).trans ((if_neg ns5).trans ((if_neg ns6).trans (if_pos rfl)))
theorem put_new {kvs : List (DK × D)} {k : DK} {d : D} (h : ∀ kv ∈ kvs, kv.1 ≠ k) : put kvs k d = kvs ++ [(k, d)] := by
  unfold put
  have : look kvs k = none := by
    cases e : look kvs k with
    | none => rfl
    | some z =>
      obtain ⟨kv, h1, h2⟩ := List.mem_map.mp (look_mem.mp (show (look kvs k).isSome = true by rw [e]; rfl))
      exact absurd h2 (h kv h1)
  rw [this]; rfl
theorem mrg_scene {a b d e : D} : mrg [] [(kKinds, a), (kPairs, b), (kPlan, d), (kTwin, e)] = [(kKinds, a), (kPairs, b), (kPlan, d), (kTwin, e)] := by
  unfold mrg
  simp only [List.foldl_cons, List.foldl_nil]
  have e1 : put ([] : List (DK × D)) kKinds a = [(kKinds, a)] := rfl
  have e2 : put [(kKinds, a)] kPairs b = [(kKinds, a), (kPairs, b)] := put_new fun kv h => by
    rw [List.mem_singleton.mp h]; exact ns1
  have e3 : put [(kKinds, a), (kPairs, b)] kPlan d = [(kKinds, a), (kPairs, b), (kPlan, d)] := put_new fun kv h => by
    rcases List.mem_cons.mp h with h | h
    · rw [h]; exact ns2
    · rw [List.mem_singleton.mp h]; exact ns4
  have e4 : put [(kKinds, a), (kPairs, b), (kPlan, d)] kTwin e = [(kKinds, a), (kPairs, b), (kPlan, d), (kTwin, e)] := put_new fun kv h => by
    rcases List.mem_cons.mp h with h | h
    · rw [h]; exact ns3
    · rcases List.mem_cons.mp h with h | h
      · rw [h]; exact ns5
      · rw [List.mem_singleton.mp h]; exact ns6
  rw [e1, e2, e3, e4]
abbrev rScene (K : PySem.W.Frag) : DRel := RelO (fun (a : Pen × Int × Int) q => [.ref q, .int a.2.1, .int a.2.2]) (fun a => .dK (penK a.1)) (fun a => PenOk 900000 a.1 ∧ 0 ≤ a.2.1 ∧ a.2.1 ≤ a.2.2 ∧ a.2.2 ≤ 5) (fun a => sceneD K (sceneP a.1 a.2.1 a.2.2).1) (fun a => .dK (penK (sceneP a.1 a.2.1 a.2.2).2))
theorem pick_step (pen : Pen) : pickV pen [.int 1, .int 3, .int 5, .int 7] = .int (stepV (drawP pen 4).1) := by
  have h := draw_bd pen (span := 4) (by decide)
  unfold pickV stepV
  show List.getD [D.int 1, .int 3, .int 5, .int 7] (drawP pen 4).1.toNat .non = _
  have : (drawP pen 4).1 = 0 ∨ (drawP pen 4).1 = 1 ∨ (drawP pen 4).1 = 2 ∨ (drawP pen 4).1 = 3 := by omega
  rcases this with e | e | e | e <;> rw [e] <;> rfl
theorem f_scene : FnS P w K mg base "_law_scene" 6 [] (rScene K) := by
  refine mk_l_scene (relO_len fun _ _ => rfl) (relO_body ?_)
  rintro ⟨pen, least, most⟩ q ⟨hp, h0, h1, h2⟩
  dsimp only [start0, N_l_scene] at *
  wtm_at "bd"
  have hsc := scene_ok hp h0 h1 h2
  have hd1 := draw_bd pen (span := most + 1 - least) (by omega)
  have o1 := draw_ok hp (most + 1 - least)
  have o2 := draw_ok o1 26
  have hd3 := draw_bd (drawP (drawP pen (most + 1 - least)).2 26).2 (span := 4) (by decide)
  have hd2 := draw_bd (drawP pen (most + 1 - least)).2 (span := 26) (by decide)
  have o3 := draw_ok o2 4
  have o4 := draw_ok o3 7
  refine ss_tup3 (by wtm_at "nix") (by wtm_at "nix") (by wtm_at "nix") (by dsimp only; decide +kernel) (pns_v (M1 := [(q, .dK (penK (drawP pen (most + 1 - least)).2))]) (pv_bin (by wtm_at "ev") (pv_callO f_draw (pen, most + 1 - least) ⟨by dsimp only; omega, by dsimp only; omega, hp.mono (by omega)⟩ (by wtm_at "args") (by wtm_at "mcut_") (by wtm_at "mcut_")) o_add) (pns_v (M1 := [(q, .dK (penK (drawP (drawP pen (most + 1 - least)).2 26).2))]) (pv_callO f_draw ((drawP pen (most + 1 - least)).2, 26) ⟨by dsimp only; omega, by dsimp only; omega, o1.mono (by omega)⟩ (by wtm_at "args") (by wtm_at "mcut_") (by wtm_at "mcut_")) (pns_v (d := .int (stepV (drawP (drawP (drawP pen (most + 1 - least)).2 26).2 4).1)) (M1 := [(q, .dK (penK (drawP (drawP (drawP pen (most + 1 - least)).2 26).2 4).2))]) (pv_eq (pv_callO f_pick ((drawP (drawP pen (most + 1 - least)).2 26).2, true, [.int 1, .int 3, .int 5, .int 7]) ⟨by simp, by simp, o2.mono (by omega)⟩ (pas_cons (by wtm_at "ev") (pas1 (pv_lst (by wtm_at "args") (sz_line (by simp))))) MCut.here MCut.here) (pick_step _)) ?_)))
  refine ⟨_, _, _, _, _, _, rfl, by wtm_at "put_", by wtm_at "put_", by wtm_at "put_", ?_⟩
  have hst := stepV_in hd3.1 hd3.2
  have hsce : sceneP pen least most = (⟨kindsS (least + (drawP pen (most + 1 - least)).1) (drawP (drawP pen (most + 1 - least)).2 26).1 (stepV (drawP (drawP (drawP pen (most + 1 - least)).2 26).2 4).1), (pairsAll (least + (drawP pen (most + 1 - least)).1) (drawP (drawP (drawP (drawP pen (most + 1 - least)).2 26).2 4).2 7).1 (kindsS (least + (drawP pen (most + 1 - least)).1) (drawP (drawP pen (most + 1 - least)).2 26).1 (stepV (drawP (drawP (drawP pen (most + 1 - least)).2 26).2 4).1)) (least + (drawP pen (most + 1 - least)).1).toNat (drawP (drawP (drawP (drawP pen (most + 1 - least)).2 26).2 4).2 7).2).1⟩, (pairsAll (least + (drawP pen (most + 1 - least)).1) (drawP (drawP (drawP (drawP pen (most + 1 - least)).2 26).2 4).2 7).1 (kindsS (least + (drawP pen (most + 1 - least)).1) (drawP (drawP pen (most + 1 - least)).2 26).1 (stepV (drawP (drawP (drawP pen (most + 1 - least)).2 26).2 4).1)) (least + (drawP pen (most + 1 - least)).1).toNat (drawP (drawP (drawP (drawP pen (most + 1 - least)).2 26).2 4).2 7).2).2) := rfl
  have hmn : 0 ≤ least + (drawP pen (most + 1 - least)).1 ∧ least + (drawP pen (most + 1 - least)).1 ≤ 5 := by omega
  rw [hsce] at hsc ⊢
  dsimp only at hsc ⊢
  generalize least + (drawP pen (most + 1 - least)).1 = many at *
  generalize (drawP (drawP pen (most + 1 - least)).2 26).1 = first at *
  generalize stepV (drawP (drawP (drawP pen (most + 1 - least)).2 26).2 4).1 = step at *
  generalize (drawP (drawP (drawP pen (most + 1 - least)).2 26).2 4).2 = pen3 at *
  clear hsce
  obtain ⟨ka, kb, kl⟩ := kinds_ok (many := many) (first := first) (by omega) hst
  have hd4 := draw_bd pen3 (span := 7) (by decide)
  refine ss_set (d := .str letters) (M1 := [(q, .dK (penK pen3))]) (by wtm_at "put_") (pv_eq (by wtm_at "ev") (congrArg D.str (by decide +kernel))) ?_
  have hstep : -(2 ^ 64) < step ∧ step < 2 ^ 64 := by omega
  have hlz : (List.range many.toNat).length ≤ sizeLine := sz_line (by simp; omega)
  have hkl : (kindL many first step).length < 64 := by unfold kindL; simp; omega
  have hkz : ((sortL (kindL many first step)).map List.length).sum ≤ 16777216 := by
    have : ∀ l : List (List Nat), (l.map List.length).sum = l.flatten.length := fun l => by rw [List.length_flatten]
    rw [this]
    show (kindsS many first step).length ≤ _
    omega
  refine ss_set (d := .str (kindsS many first step)) (M1 := [(q, .dK (penK pen3))]) (by wtm_at "put_") (pv_join0 (ls := sortL (kindL many first step)) (by wtm_at "ev") (pv_b1 (pv_lc (lc_nm (l := List.range many.toNat) (inj := fun i => .int (i : Nat)) (t := fun _ => true) (g := fun k => .str [kindF first step k]) (by wtm_at "pin") rfl (by wtm_at "nix") (by wtm_at "wipe_") (by wtm_at "put_") (by dsimp only; decide +kernel) hlz (fun k hk => ⟨PIf.nil, fun _ => ?_⟩))) (b_sortS (ls := kindL many first step) (by rw [flt_all]; unfold kindL; rw [List.map_map]; rfl) hkl (by wtm_at "gf"))) rfl hkz) ?_
  · have hb := fmod_bd (first + step * (k : Int)) (b := 26) (by decide)
    exact pv_b1 (pv_sub (by wtm_at "ev") (pv_bin (pv_b1 (pv_bin (by wtm_at "ev") (pv_bin (by wtm_at "ev") (by wtm_at "ev") (o_mul (.inl hstep))) o_add) (by wtm_at "b1_")) (by wtm_at "ev") (o_mod (by decide))) (ix_S' (s := letters) hb.1 hb.2 (sz_line (by decide)))) (by wtm_at "b1_")
  refine ss_par2 (by wtm_at "put_") (pns_v (M1 := [(q, .dK (penK (drawP pen3 7).2))]) (pv_callO f_draw (pen3, 7) ⟨by dsimp only; omega, by dsimp only; omega, o3.mono (by omega)⟩ (by wtm_at "args") (by wtm_at "mcut_") (by wtm_at "mcut_")) (pns_n (pn_lst pas_nil) ?_)) ⟨_, by wtm_at "put_"⟩
  rintro _ _ ⟨z, rfl, rfl⟩
  refine ⟨_, _, _, rfl, by wtm_at "put_", ?_⟩
  have o5 := draw_ok o3 7
  generalize hsh : (drawP pen3 7).1 = shape at *
  generalize (drawP pen3 7).2 = pen4 at *
  generalize hkd : kindsS many first step = kinds at *
  have hP0 : PairsOk kinds (([], pen4) : List (List Nat) × Pen) (900000 + 1 + 1 + 1 + 1) 0 := ⟨fun s hs => (by cases hs), Nat.le_refl _, o5⟩
  have hsz : kinds.length ≤ sizeLine := sz_line (by omega)
  let ev : Option D → Option D → Option D → Option D → Dl.Env := fun o1 o2 o3 o4 => [("_law_pen", some (.ref q)), ("_law_least", some (.int least)), ("_law_most", some (.int most)), ("_law_many", some (.int many)), ("_law_first", some (.int first)), ("_law_step", some (.int step)), ("_law_letters", some (.str letters)), ("_law_kinds", some (.str kinds)), ("_law_k", o1), ("_law_shape", some (.int shape)), ("_law_pairs", some (.ref z)), ("_law_j", o2), ("_law_near_here", o3), ("_law_menu", o4), ("_law_twin", none), ("_law_pair", none)]
  refine ss_for (by wtm_at "pin") (by wtm_at "tgn") (fun i ρ M => M = [(z, .lst (txs ((List.range i).foldl (pairRow many shape kinds) ([], pen4)).1)), (q, .dK (penK ((List.range i).foldl (pairRow many shape kinds) ([], pen4)).2))] ∧ ∃ o1 o2 o3 o4, ρ = ev o1 o2 o3 o4) ⟨rfl, none, none, none, none, rfl⟩ ?_ ?_
  · rintro i x ρ M hx ⟨rfl, o1, o2, o3, o4, rfl⟩
    try dsimp only at hx
    obtain ⟨k, h3, h4, rfl⟩ := map_get hx
    have ec : k = i := by
      rw [List.getElem?_range (by simpa using h4)] at h3; exact (Option.some.inj h3).symm
    subst ec
    rw [List.length_range] at h4
    have hk : k < kinds.length := by omega
    have hR := foldA_ok (many := many) (shape := shape) hP0 (by omega) k (by omega)
    have hrs : (List.range (k + 1)).foldl (pairRow many shape kinds) ([], pen4) = (List.range k).foldl (pairStep many shape kinds k) ((List.range k).foldl (pairRow many shape kinds) ([], pen4)) := by
      rw [List.range_succ, List.foldl_append]; rfl
    rw [hrs]
    generalize (List.range k).foldl (pairRow many shape kinds) ([], pen4) = st0 at *
    dsimp only [ev]
    refine ⟨_, ⟨_, by wtm_at "put_", rfl⟩, ?_⟩
    refine ss_for (by wtm_at "pin") (by wtm_at "tgn") (fun j ρ M => M = [(z, .lst (txs ((List.range j).foldl (pairStep many shape kinds k) st0).1)), (q, .dK (penK ((List.range j).foldl (pairStep many shape kinds k) st0).2))] ∧ ∃ o2 o3 o4, ρ = ev (some (.int (k : Nat))) o2 o3 o4) ⟨rfl, _, _, _, rfl⟩ ?_ ?_
    · rintro j x ρ M hx ⟨rfl, o2, o3, o4, rfl⟩
      try dsimp only at hx
      obtain ⟨j', h5, h6, rfl⟩ := map_get hx
      have ec : j' = j := by
        rw [List.getElem?_range (by simpa using h6)] at h5; exact (Option.some.inj h5).symm
      subst ec
      rw [List.length_range, Int.toNat_natCast] at h6
      have hS := foldR_ok (many := many) (shape := shape) hk j' (by omega) hR
      have hrs2 : (List.range (j' + 1)).foldl (pairStep many shape kinds k) st0 = pairStep many shape kinds k ((List.range j').foldl (pairStep many shape kinds k) st0) j' := by
        rw [List.range_succ, List.foldl_append]; rfl
      rw [hrs2]
      generalize (List.range j').foldl (pairStep many shape kinds k) st0 = st at *
      obtain ⟨s1, s2, s3⟩ := hS
      have s3' : PenOk 1000000 st.2 := s3.mono (by omega)
      dsimp only [ev]
      refine ⟨_, ⟨_, by wtm_at "put_", rfl⟩, ?_⟩
      refine ss_set (by wtm_at "put_") (by wtm_at "ev") ?_
      refine ss_set (M1 := [(z, .lst (txs st.1)), (q, .dK (penK (drawP st.2 2).2))]) (d := .lst ((menuS many k j' (drawP st.2 2).1).map D.bl)) (by wtm_at "put_") (pv_lst (pas_cons (by wtm_at "ev") (pas_cons (by wtm_at "ev") (pas_cons (by wtm_at "ev") (pas_cons (by wtm_at "ev") (pas_cons (by wtm_at "ev") (pas_cons (by wtm_at "ev") (pas1 (pv_cmp (pv_callO f_draw (st.2, 2) ⟨by dsimp only; omega, by dsimp only; omega, s3'⟩ (by wtm_at "args") (MCut.there MCut.here) (MCut.there MCut.here)) (by wtm_at "ev") o_eqI)))))))) (sz_line (Nat.le_trans (Nat.le_of_eq (rfl : _ = 7)) (by decide)))) ?_
      have hmz : ((menuS many k j' (drawP st.2 2).1).map D.bl)[shape.toNat]? = some (.bl ((menuS many k j' (drawP st.2 2).1).getD shape.toNat false)) := map_at false (by
        have : (menuS many k j' (drawP st.2 2).1).length = 7 := rfl
        omega)
      refine ss_if (M1 := [(z, .lst (txs st.1)), (q, .dK (penK (drawP st.2 2).2))]) (pb_val (pv_sub (by wtm_at "ev") (by wtm_at "ev") (ix_L hd4.1 hmz))) (fun h => ?_) (fun h => ?_)
      · refine ss_expr (pv_append (by wtm_at "ev") (by wtm_at "mat_") (pv_bin (pv_sub (by wtm_at "ev") (by wtm_at "ev") (ix_S' (s := kinds) (by omega) (by omega) hsz)) (pv_sub (by wtm_at "ev") (by wtm_at "ev") (ix_S' (s := kinds) (by omega) (by omega) hsz)) (o_cat (sz_line (by simp)))) (by wtm_at "mat_") (by wtm_at "mput_") (sz_lt (by simp; omega))) ?_
        refine ss_nil (ss_nil ⟨?_, _, _, _, rfl⟩)
        unfold pairStep
        rw [if_pos h]
        simp [txs]
      · refine ss_nil (ss_nil ⟨?_, _, _, _, rfl⟩)
        unfold pairStep
        rw [if_neg (by rw [h]; decide)]
    · rintro ρ M ⟨rfl, o2, o3, o4, rfl⟩
      refine ss_nil ⟨?_, _, _, _, _, rfl⟩
      rw [List.length_map, List.length_range, Int.toNat_natCast]
  · rintro ρ M ⟨rfl, o1, o2, o3, o4, rfl⟩
    rw [List.length_map, List.length_range]
    have hst2 : (List.range many.toNat).foldl (pairRow many shape kinds) ([], pen4) = pairsAll many shape kinds many.toNat pen4 := rfl
    rw [hst2]
    obtain ⟨st3, hst3⟩ : ∃ st3, st3 = pairsAll many shape kinds many.toNat pen4 := ⟨_, rfl⟩
    have hst3 : (List.range many.toNat).foldl (pairRow many shape kinds) ([], pen4) = pairsAll many shape kinds many.toNat pen4 := rfl
    have hlen2 : ∀ s ∈ (pairsAll many shape kinds many.toNat pen4).1, s.length ≤ 100000 := fun s hs => by
      obtain ⟨a, b, rfl, _⟩ := hsc.1.two s hs
      simp
    generalize pairsAll many shape kinds many.toNat pen4 = st at *
    obtain ⟨hT, hpo, hl1, hl2⟩ := hsc
    dsimp only [ev]
    have hpl : st.1.length ≤ 25 := by
      have := (foldA_ok (many := many) (shape := shape) hP0 (by omega) many.toNat (by omega)).2.1
      rw [hst3] at this; omega
    have hkn : kinds.Nodup := ka.imp Nat.ne_of_lt
    refine ss_frzL (nm := "_law_pairs") (by wtm_at "mcut_") (by wtm_at "at_") (by wtm_at "put_") (by dsimp only [List.map]; decide +kernel) ?_
    have hplz : (st.1.reverse).length ≤ sizeLine := sz_line (by rw [List.length_reverse]; omega)
    refine ss_set (M1 := [(q, .dK (penK st.2))]) (d := planD K (mkPl kinds st.1)) (by wtm_at "put_") (pv_eq (pv_makeI f_Plan (kinds.reverse, st.1.reverse.map List.reverse) ⟨hT.madeR, List.pairwise_reverse.mpr (hkn.imp Ne.symm), by simp; omega⟩ (pas_cons (by wtm_at "ev") (pas1 (pv_lc (lc_nm (l := st.1.reverse) (inj := D.str) (t := fun _ => true) (g := fun s => .str s.reverse) (pin_of (pv_eq (pv_rev (by wtm_at "ev") (by wtm_at "rv_")) (show _ = D.lst (st.1.reverse.map D.str) by rw [List.map_reverse])) px_lst) rfl (by wtm_at "nix") (by wtm_at "wipe_") (by wtm_at "put_") (by dsimp only; decide +kernel) hplz (fun s hs => ⟨PIf.nil, fun _ => by (have hsl : s.length ≤ 100000 := hlen2 s (List.mem_reverse.mp hs)); wtm_at "ev"⟩))))) (by rw [flt_all]; simp [txs])) (by rw [mkPl_rev])) ?_
    refine ss_ret (M1 := [(q, .dK (penK st.2))]) (d := sceneD K ⟨kinds, st.1⟩) (pv_eq (pv_new (kvs := mrg [] [(kKinds, .str kinds), (kPairs, .lst (txs st.1)), (kPlan, planD K (mkPl kinds st.1)), (kTwin, planD K (mkPl kinds st.1))]) (pn_disp fun _ => .cons (by wtm_at "ev") (by exact rfl) (by wtm_at "ev") (.cons (by wtm_at "ev") (by exact rfl) (by wtm_at "ev") (.cons (by wtm_at "ev") (by exact rfl) (pv_makeI f_Plan (kinds, st.1) ⟨hT.made, hkn, by dsimp only; omega⟩ (pas_cons (by wtm_at "ev") (pas1 (pv_b1 (by wtm_at "ev") (b_listL (by wtm_at "gf")))))) (.cons (by wtm_at "ev") (by exact rfl) (by wtm_at "ev") .nil))))) (by rw [mrg_scene]; rfl)) ⟨rfl, rfl⟩
end

/-! ### the law's rooms -/
theorem nf_suffix {cr : Nat → Nat → Bool} : ∀ {a w b : List Nat}, NF cr w → w = a ++ b → NF cr b
  | [], w, b, h, e => by rw [List.nil_append] at e; rw [← e]; exact h
  | c :: a, w, b, h, e => by
    subst e
    exact nf_suffix (a := a) h.1 rfl
abbrev Scn.pl (s : Scn) : Pl := mkPl s.kinds s.pairs
def crossN (s : Scn) (a b : Nat) : Bool := decide ([a] ++ [b] ∈ s.pairs) || decide ([b] ++ [a] ∈ s.pairs)
theorem crossN_eq {s : Scn} (h : Told s.kinds s.pairs) (a b : Nat) : crossN s a b = crb s.pl a b := by
  rw [h.cross]; rfl
abbrev vecT (kinds : List Nat) (x : Nat → Int) : D := .tup (kinds.map fun k => .int (x k))
theorem range_filter_map {l : List Nat} (f : Nat → Bool) : ((List.range l.length).filter fun i => f (l.getD i 0)).map (fun i => l.getD i 0) = l.filter f := by
  have e : l = (List.range l.length).map fun i => l.getD i 0 := by
    refine List.ext_getElem (by simp) fun i h1 h2 => ?_
    simp [List.getD_eq_getElem?_getD, h1]
  conv => rhs; rw [e]
  rw [List.filter_map]
  rfl
section
variable {P : Program} {w : World} {K : PySem.W.Frag} {mg : Str → Option Value} {base : Heap} [Txt K mg]
abbrev rCross (K : PySem.W.Frag) : DRel := RelF (fun a : Scn × Nat × Nat => [sceneD K a.1, .str [a.2.1], .str [a.2.2]]) (fun _ => True) fun a => .bl (crossN a.1 a.2.1 a.2.2)
theorem f_cross : FnS P w K mg base "_law_cross" 1 [] (rCross K) := by
  refine mk_l_cross (relF_len fun _ => rfl) (relF_body ?_)
  rintro ⟨s, a, b⟩ _
  dsimp only [start0, N_l_cross] at *
  wtm_at "bd"
  have k1 := lk_pairs (K := K) s
  refine ss_ret (pv_or (pv_in (by wtm_at "ev") (pv_sub (by wtm_at "ev") (by wtm_at "ev") (ix_D (j := Sum.inr _) rfl k1)) (in_op (o_inF (f := D.str) sq_lst))) fun _ => pv_one (pv_in (by wtm_at "ev") (pv_sub (by wtm_at "ev") (by wtm_at "ev") (ix_D (j := Sum.inr _) rfl k1)) (in_op (o_inF (f := D.str) sq_lst)))) ?_
  refine ⟨?_, rfl⟩
  unfold crossN
  refine congrArg D.bl ?_
  congr 1 <;> exact decide_eq_decide.mpr Iff.rfl
abbrev rHome (K : PySem.W.Frag) : DRel := RelF (fun s : Scn => [sceneD K s]) (fun s => s.kinds.length ≤ 8) fun s => vecT s.kinds fun _ => 1
theorem f_home : FnS P w K mg base "_law_home" 1 [] (rHome K) := by
  refine mk_l_home (relF_len fun _ => rfl) (relF_body ?_)
  intro s hs
  dsimp only [start0, N_l_home] at *
  wtm_at "bd"
  have k1 := lk_kinds (K := K) s
  refine ss_ret (pv_b1 (pv_lc (lc_nm (l := s.kinds) (inj := fun k => .str [k]) (t := fun _ => true) (g := fun _ => .int 1) (pin_of (pv_sub (by wtm_at "ev") (by wtm_at "ev") (ix_D (j := Sum.inr _) rfl k1)) px_str) rfl (by wtm_at "nix") (by wtm_at "wipe_") (by wtm_at "put_") (by dsimp only; decide +kernel) (sz_line (by omega)) (fun a ha => ⟨PIf.nil, fun _ => by wtm_at "ev"⟩))) (b_tupL (by wtm_at "gf"))) ?_
  refine ⟨?_, rfl⟩
  rw [flt_all]
abbrev rGo (K : PySem.W.Frag) : DRel := RelF (fun a : Scn × (Nat → Int) × Nat => [sceneD K a.1, vecT a.1.kinds a.2.1, .str [a.2.2]]) (fun a => Told a.1.kinds a.1.pairs ∧ a.2.2 ∈ a.1.kinds) fun a => vecT a.1.kinds (act (crb a.1.pl) a.2.1 a.2.2)
theorem f_go : FnS P w K mg base "_law_go" 2 [] (rGo K) := by
  refine mk_l_go (relF_len fun _ => rfl) (relF_body ?_)
  rintro ⟨s, x, k⟩ ⟨hT, hk⟩
  dsimp only [start0, N_l_go] at *
  wtm_at "bd"
  have k1 := lk_kinds (K := K) s
  have h8 := hT.len
  have hsz : s.kinds.length ≤ sizeLine := sz_line (by omega)
  have hn : s.kinds.Nodup := hT.asc.imp Nat.ne_of_lt
  refine ss_par2 (by wtm_at "put_") (pns_v (M1 := []) (pv_sub (by wtm_at "ev") (by wtm_at "ev") (ix_D (j := Sum.inr _) rfl k1)) (pns_n (pn_lst pas_nil) ?_)) ⟨_, by wtm_at "put_"⟩
  rintro _ _ ⟨z, rfl, rfl⟩
  refine ⟨_, _, _, rfl, by wtm_at "put_", ?_⟩
  have hat : ∀ i, i < s.kinds.length → (s.kinds.map fun k => D.int (x k))[i]? = some (.int (x (s.kinds.getD i 0))) := fun i hi => map_at (f := fun k => D.int (x k)) 0 hi
  have hki := List.idxOf_lt_length_iff.mpr hk
  have hx : (s.kinds.map fun k => D.int (x k))[((s.kinds.idxOf k : Nat) : Int).toNat]? = some (.int (x k)) := by
    rw [Int.toNat_natCast, hat _ hki, idx_getD hk]
  refine ss_set (M1 := [(z, .lst [])]) (d := .int (x k)) (by wtm_at "put_") (pv_sub (by wtm_at "ev") (pv_indexS (by wtm_at "ev") (by wtm_at "ev") (index_one hk)) (ix_T (Int.natCast_nonneg _) hx)) ?_
  refine ss_for (by wtm_at "pin") (by wtm_at "tgn") (fun i ρ M => M = [(z, .lst ((List.range i).map fun j => .int (act (crb s.pl) x k (s.kinds.getD j 0))))] ∧ ∃ o, ρ = ([("_law_scene_here", some (sceneD K s)), ("_law_spot", some (vecT s.kinds x)), ("_law_door", some (.str [k])), ("_law_kinds", some (.str s.kinds)), ("_law_found", some (.ref z)), ("_law_amount", some (.int (x k))), ("_law_k", o)] : Dl.Env)) ⟨rfl, none, rfl⟩ ?_ ?_
  · rintro i y ρ M hy ⟨rfl, o, rfl⟩
    obtain ⟨j, h3, h4, rfl⟩ := map_get hy
    rw [List.length_range, Int.toNat_natCast] at h4
    have ec : j = i := by
      rw [Int.toNat_natCast, List.getElem?_range h4] at h3; exact (Option.some.inj h3).symm
    subst ec
    refine ⟨_, ⟨_, by wtm_at "put_", rfl⟩, ?_⟩
    have hj := hat j h4
    have hj' : (s.kinds.map fun k => D.int (x k))[((j : Nat) : Int).toNat]? = some (.int (x (s.kinds.getD j 0))) := by rw [Int.toNat_natCast]; exact hj
    have hfl : ((List.range j).map fun j => D.int (act (crb s.pl) x k (s.kinds.getD j 0))).length < sizeLine := sz_lt (by simp; omega)
    have hkk : ∀ (cc : Cfg) (ρ : Dl.Env) (M : Mem) (a b : Expr) (pos : Pos), PV cc a ρ M (.str s.kinds) M → PV cc b ρ M (.int (j : Nat)) M → PlX b → PV cc (.Subscript a b pos) ρ M (.str [s.kinds.getD j 0]) M := fun cc ρ M a b pos h1 h2 h3 => pv_sub h1 h2 (ix_S' (s := s.kinds) (by omega) (by omega) hsz h3)
    refine ss_ifc (k := decide (s.kinds.getD j 0 = k)) (M1 := [(z, .lst ((List.range j).map fun j => .int (act (crb s.pl) x k (s.kinds.getD j 0))))]) (fun ρ M => M = [(z, .lst ((List.range (j + 1)).map fun j => .int (act (crb s.pl) x k (s.kinds.getD j 0))))] ∧ ρ = ([("_law_scene_here", some (sceneD K s)), ("_law_spot", some (vecT s.kinds x)), ("_law_door", some (.str [k])), ("_law_kinds", some (.str s.kinds)), ("_law_found", some (.ref z)), ("_law_amount", some (.int (x k))), ("_law_k", some (.int (j : Nat)))] : Dl.Env)) (pb_eq (pb_cmp (hkk _ _ _ _ _ _ (by wtm_at "ev") (by wtm_at "ev") (fun _ _ => rfl)) (by wtm_at "ev") o_eqS) (by simp)) (fun h => ?_) (fun h => ?_) ?_
    · have h := of_decide_eq_true h
      refine ss_expr (pv_append (by wtm_at "ev") (by wtm_at "mat_") (by wtm_at "ev") (by wtm_at "mat_") (by wtm_at "mput_") hfl) (ss_nil ⟨?_, rfl⟩)
      have e : act (crb s.pl) x k (s.kinds.getD j 0) = - x k := if_pos h
      rw [List.range_succ, List.map_append, ← e]; rfl
    · have h := of_decide_eq_false h
      refine ss_expr (pv_append (d := .int (act (crb s.pl) x k (s.kinds.getD j 0))) (M2 := [(z, .lst ((List.range j).map fun j => .int (act (crb s.pl) x k (s.kinds.getD j 0))))]) (by wtm_at "ev") (by wtm_at "mat_") (pv_if (k := crossN s (s.kinds.getD j 0) k) (M1 := [(z, .lst ((List.range j).map fun j => .int (act (crb s.pl) x k (s.kinds.getD j 0))))]) (pb_val (pv_callF f_cross (s, s.kinds.getD j 0, k) trivial (pas_cons (by wtm_at "ev") (pas_cons (hkk _ _ _ _ _ _ (by wtm_at "ev") (by wtm_at "ev") (fun _ _ => rfl)) (pas1 (by wtm_at "ev")))))) (fun hc => ?_) (fun hc => ?_)) (by wtm_at "mat_") (by wtm_at "mput_") hfl) (ss_nil ⟨?_, rfl⟩)
      · rw [crossN_eq hT] at hc
        exact pv_eq (pv_sub (by wtm_at "ev") (by wtm_at "ev") (ix_T (Int.natCast_nonneg _) hj')) (by unfold act; rw [if_neg h, if_pos hc])
      · rw [crossN_eq hT] at hc
        exact pv_eq (pv_bin (pv_sub (by wtm_at "ev") (by wtm_at "ev") (ix_T (Int.natCast_nonneg _) hj')) (pv_bin (by wtm_at "ev") (by wtm_at "ev") (o_mul (.inl ⟨by decide, by decide⟩))) o_add) (by unfold act; rw [if_neg h, if_neg (by rw [hc]; decide)])
      · rw [List.range_succ, List.map_append]; rfl
    · rintro ρ M ⟨rfl, rfl⟩
      exact ss_nil ⟨rfl, _, rfl⟩
  · rintro ρ M ⟨rfl, o, rfl⟩
    rw [List.length_map, List.length_range, Int.toNat_natCast]
    refine ss_ret (pv_b1 (pv_frzL (by wtm_at "ev") (by wtm_at "mcut_")) (b_tupL (by wtm_at "gf"))) ⟨?_, rfl⟩
    refine congrArg D.tup ?_
    refine List.ext_getElem (by simp) fun i h1 h2 => ?_
    simp at h1
    simp [h1]
abbrev rLed (K : PySem.W.Frag) : DRel := RelF (fun a : Scn × (Nat → Int) × List Nat => [sceneD K a.1, vecT a.1.kinds a.2.1, .str a.2.2]) (fun a => Told a.1.kinds a.1.pairs ∧ ∀ k ∈ a.2.2, k ∈ a.1.kinds) fun a => vecT a.1.kinds (ledv (crb a.1.pl) a.2.1 a.2.2)
theorem f_led : FnS P w K mg base "_law_led" 3 [] (rLed K) := by
  refine mk_l_led (relF_len fun _ => rfl) (relF_body ?_)
  rintro ⟨s, x, way⟩ ⟨hT, hk⟩
  dsimp only [start0, N_l_led] at *
  wtm_at "bd"
  refine ss_for (by wtm_at "pin") (by wtm_at "tgn") (fun i ρ M => M = [] ∧ ∃ o, ρ = ([("_law_scene_here", some (sceneD K s)), ("_law_spot", some (vecT s.kinds (ledv (crb s.pl) x (way.take i)))), ("_law_way", some (.str way)), ("_law_door", o)] : Dl.Env)) ⟨rfl, none, rfl⟩ ?_ ?_
  · rintro i y ρ M hy ⟨rfl, o, rfl⟩
    obtain ⟨k, h1, h2, rfl⟩ := map_get hy
    have hkm := hk k (List.mem_of_getElem? h1)
    refine ⟨_, ⟨_, by wtm_at "put_", rfl⟩, ?_⟩
    refine ss_set (M1 := []) (by wtm_at "put_") (pv_callF f_go (s, ledv (crb s.pl) x (way.take i), k) ⟨hT, hkm⟩ (by wtm_at "args")) (ss_nil ⟨rfl, some (.str [k]), ?_⟩)
    rw [List.take_add_one, h1]
    unfold ledv
    rw [List.foldl_append]
    rfl
  · rintro ρ M ⟨rfl, o, rfl⟩
    rw [List.length_map, List.take_length]
    exact ss_ret (by wtm_at "ev") ⟨rfl, rfl⟩
abbrev rNear (K : PySem.W.Frag) : DRel := RelF (fun a : Scn × (Nat → Int) => [sceneD K a.1, vecT a.1.kinds a.2]) (fun a => Told a.1.kinds a.1.pairs) fun a => .str (nearK a.1.pl a.2)
theorem f_near : FnS P w K mg base "_law_near" 1 [] (rNear K) := by
  refine mk_l_near (relF_len fun _ => rfl) (relF_body ?_)
  rintro ⟨s, x⟩ hT
  dsimp only [start0, N_l_near] at *
  wtm_at "bd"
  have k1 := lk_kinds (K := K) s
  have h8 := hT.len
  have hsz : s.kinds.length ≤ sizeLine := sz_line (by omega)
  have hlz : (List.range ((s.kinds.length : Int)).toNat).length ≤ sizeLine := sz_line (by simp; omega)
  have hat : ∀ i, i < s.kinds.length → (s.kinds.map fun k => D.int (x k))[((i : Nat) : Int).toNat]? = some (.int (x (s.kinds.getD i 0))) := fun i hi => by rw [Int.toNat_natCast]; exact map_at (f := fun k => D.int (x k)) 0 hi
  have hpk : s.pl.kinds = s.kinds := hT.kinds
  have e0 := range_filter_map (l := s.kinds) fun k => decide (x k < 0)
  refine ss_ret (d := .str (nearK s.pl x)) (M1 := []) (pv_join1 (by wtm_at "ev") (pv_lc (lc_nm (l := List.range s.kinds.length) (inj := fun i => .int (i : Nat)) (t := fun i => decide (x (s.kinds.getD i 0) < 0)) (g := fun i => .str [s.kinds.getD i 0]) (by wtm_at "pin") (by rw [Int.toNat_natCast, List.length_map]) (by wtm_at "nix") (by wtm_at "wipe_") (by wtm_at "put_") (by dsimp only; decide +kernel) (sz_line (by simp; omega)) (fun i hi => ⟨PIf.one (pb_cmp (pv_sub (by wtm_at "ev") (by wtm_at "ev") (ix_T (Int.natCast_nonneg _) (hat i (List.mem_range.mp hi)))) (by wtm_at "ev") o_lt), fun _ => pv_sub (pv_sub (by wtm_at "ev") (by wtm_at "ev") (ix_D (j := Sum.inr _) rfl k1)) (by wtm_at "ev") (ix_S' (s := s.kinds) (n := ((i : Nat) : Int)) (Int.natCast_nonneg _) (by have := List.mem_range.mp hi; omega) hsz)⟩))) ?_ ?_) ⟨rfl, rfl⟩
  · unfold nearK
    rw [hpk, ← e0, List.map_map]; rfl
  · unfold nearK
    have := List.length_filter_le (fun k => decide (x k < 0)) s.pl.kinds
    rw [hpk] at this ⊢
    omega
abbrev rName (K : PySem.W.Frag) : DRel := RelF (fun a : Scn × List Nat => [sceneD K a.1, .str a.2]) (fun a => Told a.1.kinds a.1.pairs ∧ (∀ k ∈ a.2, k ∈ a.1.kinds) ∧ a.2.length ≤ 1000) fun a => .str (joinN a.1.pl [] a.2)
theorem f_name : FnS P w K mg base "_law_name" 4 [] (rName K) := by
  refine mk_l_name (relF_len fun _ => rfl) (relF_body ?_)
  rintro ⟨s, way⟩ ⟨hT, hk, hl⟩
  dsimp only [start0, N_l_name] at *
  wtm_at "bd"
  have h8 := hT.len
  have hok := mkPl_ok hT.made
  have hpk : s.pl.kinds = s.kinds := hT.kinds
  have hwz : way.length ≤ sizeLine := sz_line (by omega)
  have hnf : NF (crb s.pl) (joinN s.pl [] way) := joinN_nf hok way (name := []) trivial
  have hin : ∀ c ∈ joinN s.pl [] way, c ∈ s.pl.kinds := joinN_in (by simp) (by rw [hpk]; exact hk)
  have hjl := joinN_len s.pl way []
  rw [List.length_nil] at hjl
  refine ss_par2 (by wtm_at "put_") (pns_v (M1 := []) (d := vecT s.kinds (vec (crb s.pl) (joinN s.pl [] way))) (pv_eq (pv_callF f_led (s, fun _ => 1, way.reverse) ⟨hT, fun k h => hk k (List.mem_reverse.mp h)⟩ (pas_cons (by wtm_at "ev") (pas_cons (pv_callF f_home s (by omega) (by wtm_at "args")) (pas1 (by wtm_at "ev"))))) (by rw [ledv_rev, joinN_vec hok])) (pns_v (d := .str []) (M1 := []) (pv_eq (by wtm_at "ev") (congrArg D.str (by decide +kernel))) ?_)) ⟨_, by wtm_at "put_"⟩
  refine ⟨_, _, _, rfl, by wtm_at "put_", ?_⟩
  generalize joinN s.pl [] way = nm at *
  refine ss_while (fun n ρ M => ∃ a b, nm = a ++ b ∧ n = b.length ∧ M = [] ∧ ρ = ([("_law_scene_here", some (sceneD K s)), ("_law_way", some (.str way)), ("_law_spot", some (vecT s.kinds (vec (crb s.pl) b))), ("_law_found", some (.str a))] : Dl.Env)) (n := nm.length) ⟨[], nm, rfl, rfl, rfl, rfl⟩ ?_
  rintro n ρ M ⟨a, b, e, rfl, rfl, rfl⟩
  have hbn : NF (crb s.pl) b := nf_suffix hnf e
  have hbi : ∀ c ∈ b, c ∈ s.pl.kinds := fun c hc => hin c (by rw [e]; exact List.mem_append_right _ hc)
  have hh := near_nf hok hbn hbi
  have hnz : (nearK s.pl (vec (crb s.pl) b)).length ≤ sizeLine := sz_line (by
    unfold nearK
    have := List.length_filter_le (fun k => decide (vec (crb s.pl) b k < 0)) s.pl.kinds
    rw [hpk] at this ⊢
    omega)
  have hal : a.length + b.length ≤ 1000 := by have := congrArg List.length e; rw [List.length_append] at this; omega
  have hE : ∀ (cc : Cfg) (ρ : Dl.Env) (e : Expr), PV cc e ρ [] (.str []) [] → True := fun _ _ _ _ => trivial
  refine ⟨!decide (nearK s.pl (vec (crb s.pl) b) = []), [], pb_cmp (pv_callF f_near (s, vec (crb s.pl) b) hT (by wtm_at "args")) (pv_eq (d := .str ("" : Str).cps.toList) (by wtm_at "ev") (congrArg D.str (by decide +kernel))) o_neS, fun h => ?_, fun h => ?_⟩
  · have h : nearK s.pl (vec (crb s.pl) b) ≠ [] := by simpa using h
    cases b with
    | nil => exact absurd (by rw [List.head?_nil, List.head?_eq_none_iff] at hh; exact hh) h
    | cons k b =>
      have hk0 : (nearK s.pl (vec (crb s.pl) (k :: b)))[(0 : Int).toNat]? = some k := by
        rw [List.head?_cons, List.head?_eq_getElem?] at hh
        exact hh
      have hkm : k ∈ s.kinds := by rw [← hpk]; exact hbi k (List.mem_cons_self ..)
      have hsa : a.length + 1 ≤ sizeLine := sz_line (by rw [List.length_cons] at hal; omega)
      refine ss_set (M1 := []) (d := .str (a ++ [k])) (by wtm_at "put_") (pv_bin (by wtm_at "ev") (pv_sub (pv_callF f_near (s, vec (crb s.pl) (k :: b)) hT (by wtm_at "args")) (by wtm_at "ev") (ix_S (by omega) hk0 hnz)) (o_cat hsa)) ?_
      refine ss_set (M1 := []) (d := vecT s.kinds (vec (crb s.pl) b)) (by wtm_at "put_") (pv_eq (pv_callF f_go (s, vec (crb s.pl) (k :: b), k) ⟨hT, hkm⟩ (pas_cons (by wtm_at "ev") (pas_cons (by wtm_at "ev") (pas1 (pv_ixSneg (s := a ++ [k]) (k := k) (j := 1) (by wtm_at "ev") (pv_eq (by wtm_at "ev") rfl) (by decide) (by simp) (by simpa using hsa) (by simp)))))) (by dsimp only; rw [vec_next])) ?_
      refine ss_nil ⟨b.length, by simp, a ++ [k], b, by rw [e]; simp, rfl, rfl, rfl⟩
  · have h : nearK s.pl (vec (crb s.pl) b) = [] := by simpa using h
    rw [h] at hh
    cases b with
    | nil => exact ss_ret (by wtm_at "ev") ⟨by rw [e, List.append_nil], rfl⟩
    | cons k b => cases hh
abbrev rLRoom (K : PySem.W.Frag) : DRel := RelF (fun a : Scn × List Nat => [sceneD K a.1, .str a.2]) (fun a => Told a.1.kinds a.1.pairs ∧ (∀ k ∈ a.2, k ∈ a.1.kinds) ∧ a.2.length ≤ 2000) fun a => roomD K a.1.pl (joinN a.1.pl [] a.2)
theorem f_lroom : FnS P w K mg base "_law_room" 5 [] (rLRoom K) := by
  refine mk_l_room (relF_len fun _ => rfl) (relF_body ?_)
  rintro ⟨s, way⟩ ⟨hT, hk, hl⟩
  dsimp only [start0, N_l_room] at *
  wtm_at "bd"
  have k1 := lk_twin (K := K) s
  have hpk : s.pl.kinds = s.kinds := hT.kinds
  exact ss_ret (pv_makeI f_Room (s.pl, way) ⟨by dsimp only; rw [hpk]; exact hk, hl⟩ (pas_cons (pv_sub (by wtm_at "ev") (by wtm_at "ev") (ix_D (j := Sum.inr _) rfl k1)) (pas1 (by wtm_at "ev")))) ⟨rfl, rfl⟩
end

/-! ### the law's doors -/
abbrev Prs := List (Nat × Nat)
abbrev Tbs := List (Nat × List Nat)
def pushesN (s : Scn) (ts : Tbs) (door h t : Nat) : Prs := (ts.filter fun kr => crossN s kr.1 door).map fun kr => (kr.2.getD h 0, kr.2.getD t 0)
def okN (ps : Prs) (a b : Nat) : Bool := decide ((look ps a).getD b = b)
/-- what is found by turns; todo: the last one first -/
def fitL (s : Scn) (ts : Tbs) (door : Nat) : Nat → Prs → Prs → Option Prs
  | 0, ps, _ => some ps
  | _ + 1, ps, [] => some ps
  | m + 1, ps, (h, t) :: todo =>
    if okN ps h t = true ∧ okN ps t h = true then
      if (look ps h).isSome = true then fitL s ts door m ps todo
      else fitL s ts door m (put (put ps h t) t h) ((pushesN s ts door h t).reverse ++ todo)
    else none
structure FitI (s : Scn) (ts : Tbs) (door n : Nat) (ps todo : Prs) : Prop where
  nd : (ps.map (·.1)).Nodup
  lt : ∀ kv ∈ ps, kv.1 < n ∧ kv.2 < n
  td : ∀ kv ∈ todo, kv.1 < n ∧ kv.2 < n
  sy : ∀ x y, look ps x = some y → look ps y = some x
  cl : ∀ x y, look ps x = some y → ∀ kr ∈ ts, crossN s kr.1 door = true → look ps (kr.2.getD x 0) = some (kr.2.getD y 0) ∨ (kr.2.getD x 0, kr.2.getD y 0) ∈ todo ∨ (kr.2.getD y 0, kr.2.getD x 0) ∈ todo
/-- how much is left -/
def leftN (n : Nat) (ps todo : Prs) : Nat := (n - ps.length) * 9 + todo.length
theorem keys_len {ps : Prs} {n : Nat} (hn : (ps.map (·.1)).Nodup) (hl : ∀ kv ∈ ps, kv.1 < n) : ps.length ≤ n := by
  have := len_sub (l' := List.range n) hn fun a ha => by
    obtain ⟨kv, h1, rfl⟩ := List.mem_map.mp ha
    exact List.mem_range.mpr (hl kv h1)
  rwa [List.length_map, List.length_range] at this
theorem look_memP {ps : Prs} {k v : Nat} (h : look ps k = some v) : (k, v) ∈ ps := by
  induction ps with
  | nil => cases h
  | cons a ps ih =>
    obtain ⟨a, y⟩ := a
    have h : (if a = k then some y else look ps k) = some v := h
    by_cases e : a = k
    · rw [if_pos e] at h; cases h; subst e; exact List.mem_cons_self ..
    · rw [if_neg e] at h; exact List.mem_cons_of_mem _ (ih h)
theorem put_memP {ps : Prs} {k v : Nat} {kv : Nat × Nat} (h : kv ∈ put ps k v) : kv ∈ ps ∨ kv = (k, v) := by
  unfold put at h
  split at h
  · obtain ⟨a, h1, rfl⟩ := List.mem_map.mp h
    by_cases e : a.1 = k
    · rw [if_pos e]; right; rw [e]
    · rw [if_neg e]; exact .inl h1
  · rcases List.mem_append.mp h with h | h
    · exact .inl h
    · exact .inr (List.mem_singleton.mp h)
theorem put_nd {ps : Prs} {k v : Nat} (h : (ps.map (·.1)).Nodup) : ((put ps k v).map (·.1)).Nodup := by
  rw [put_keys]
  split
  · exact h
  · rename_i hk
    rw [List.nodup_append]
    exact ⟨h, by simp, fun a ha b hb => by rw [List.mem_singleton.mp hb]; exact fun e => hk (e ▸ ha)⟩
theorem put_lenP {ps : Prs} {k v : Nat} : ps.length ≤ (put ps k v).length := by
  have := congrArg List.length (put_keys ps k v)
  rw [List.length_map] at this
  rw [this]
  split <;> simp
theorem put_grow {ps : Prs} {k v : Nat} (h : look ps k = none) : (put ps k v).length = ps.length + 1 := by
  unfold put; rw [h]; simp
structure TbsOk (ts : Tbs) (n : Nat) : Prop where
  few : ts.length ≤ 8
  row : ∀ kr ∈ ts, kr.2.length = n ∧ ∀ c, c < n → kr.2.getD c 0 < n ∧ kr.2.getD (kr.2.getD c 0) 0 = c
theorem fit_skip {s : Scn} {ts : Tbs} {door n h t : Nat} {ps todo : Prs} (I : FitI s ts door n ps ((h, t) :: todo)) (h1 : okN ps h t = true) (hh : (look ps h).isSome = true) : FitI s ts door n ps todo ∧ leftN n ps todo < leftN n ps ((h, t) :: todo) := by
  obtain ⟨y, hy⟩ := Option.isSome_iff_exists.mp hh
  have e : y = t := by
    have := of_decide_eq_true h1
    rw [hy] at this; exact this
  subst e
  refine ⟨⟨I.nd, I.lt, fun kv q => I.td kv (List.mem_cons_of_mem _ q), I.sy, fun x z hx kr hkr hc => ?_⟩, by unfold leftN; rw [List.length_cons]; omega⟩
  rcases I.cl x z hx kr hkr hc with q | q | q
  · exact .inl q
  · rcases List.mem_cons.mp q with q | q
    · cases q; exact .inl hy
    · exact .inr (.inl q)
  · rcases List.mem_cons.mp q with q | q
    · have q1 := congrArg Prod.fst q
      have q2 := congrArg Prod.snd q
      dsimp only at q1 q2
      exact .inl (by rw [q1, q2]; exact I.sy _ _ hy)
    · exact .inr (.inr q)
theorem fit_put {s : Scn} {ts : Tbs} {door n h t : Nat} {ps todo : Prs} (hT : TbsOk ts n) (I : FitI s ts door n ps ((h, t) :: todo)) (h2 : okN ps t h = true) (hh : (look ps h).isSome = false) : FitI s ts door n (put (put ps h t) t h) ((pushesN s ts door h t).reverse ++ todo) ∧ leftN n (put (put ps h t) t h) ((pushesN s ts door h t).reverse ++ todo) < leftN n ps ((h, t) :: todo) := by
  have hn : look ps h = none := by simpa using hh
  obtain ⟨bh, bt⟩ := I.td (h, t) (List.mem_cons_self ..)
  dsimp only at bh bt
  have ht : look ps t = none ∨ t = h := by
    cases e : look ps t with
    | none => exact .inl rfl
    | some y =>
      have := of_decide_eq_true h2
      rw [e] at this
      have : y = h := this
      subst this
      rw [I.sy _ _ e] at hn; cases hn
  have hl : ∀ x, look (put (put ps h t) t h) x = if t = x then some h else if h = x then some t else look ps x := fun x => by rw [look_put, look_put]
  have hltn : ∀ kv ∈ put (put ps h t) t h, kv.1 < n ∧ kv.2 < n := fun kv q => by
    rcases put_memP q with q | rfl
    · rcases put_memP q with q | rfl
      · exact I.lt kv q
      · exact ⟨bh, bt⟩
    · exact ⟨bt, bh⟩
  have hpush : ∀ kr ∈ ts, crossN s kr.1 door = true → (kr.2.getD h 0, kr.2.getD t 0) ∈ (pushesN s ts door h t).reverse ++ todo := fun kr hkr hc => by
    refine List.mem_append_left _ (List.mem_reverse.mpr ?_)
    exact List.mem_map.mpr ⟨kr, List.mem_filter.mpr ⟨hkr, hc⟩, rfl⟩
  have hnd := put_nd (k := t) (v := h) (put_nd (k := h) (v := t) I.nd)
  refine ⟨⟨hnd, hltn, fun kv q => ?_, fun x y hx => ?_, fun x y hx kr hkr hc => ?_⟩, ?_⟩
  · rcases List.mem_append.mp q with q | q
    · obtain ⟨kr, h3, rfl⟩ := List.mem_map.mp (List.mem_reverse.mp q)
      have hr := hT.row kr (List.mem_filter.mp h3).1
      exact ⟨(hr.2 h bh).1, (hr.2 t bt).1⟩
    · exact I.td kv (List.mem_cons_of_mem _ q)
  · rw [hl] at hx ⊢
    by_cases e1 : t = x
    · rw [if_pos e1] at hx; cases hx
      subst e1
      by_cases e2 : t = h
      · rw [if_pos e2, e2]
      · rw [if_neg e2, if_pos rfl]
    · rw [if_neg e1] at hx
      by_cases e2 : h = x
      · rw [if_pos e2] at hx; cases hx
        subst e2
        rw [if_pos rfl]
      · rw [if_neg e2] at hx
        have hs := I.sy _ _ hx
        have n1 : t ≠ y := fun e => by
          subst e
          rcases ht with q | q
          · rw [q] at hs; cases hs
          · rw [q, hn] at hs; cases hs
        have n2 : h ≠ y := fun e => by subst e; rw [hn] at hs; cases hs
        rw [if_neg n1, if_neg n2]; exact hs
  · rw [hl] at hx
    by_cases e1 : t = x
    · rw [if_pos e1] at hx; cases hx
      subst e1
      exact .inr (.inr (hpush kr hkr hc))
    · rw [if_neg e1] at hx
      by_cases e2 : h = x
      · rw [if_pos e2] at hx; cases hx
        subst e2
        exact .inr (.inl (hpush kr hkr hc))
      · rw [if_neg e2] at hx
        rcases I.cl x y hx kr hkr hc with q | q | q
        · left
          rw [hl]
          have n1 : t ≠ kr.2.getD x 0 := fun e => by
            rw [← e] at q
            rcases ht with z | z
            · rw [z] at q; cases q
            · rw [z, hn] at q; cases q
          have n2 : h ≠ kr.2.getD x 0 := fun e => by rw [← e, hn] at q; cases q
          rw [if_neg n1, if_neg n2]; exact q
        · rcases List.mem_cons.mp q with q | q
          · have q1 := congrArg Prod.fst q
            have q2 := congrArg Prod.snd q
            dsimp only at q1 q2
            left
            rw [hl, q1, q2]
            by_cases e3 : t = h
            · rw [if_pos e3, e3]
            · rw [if_neg e3, if_pos rfl]
          · exact .inr (.inl (List.mem_append_right _ q))
        · rcases List.mem_cons.mp q with q | q
          · have q1 := congrArg Prod.fst q
            have q2 := congrArg Prod.snd q
            dsimp only at q1 q2
            left
            rw [hl, q1, q2, if_pos rfl]
          · exact .inr (.inr (List.mem_append_right _ q))
  · have g1 := put_grow (v := t) hn
    have g2 := put_lenP (ps := put ps h t) (k := t) (v := h)
    have g3 := keys_len hnd fun kv q => (hltn kv q).1
    have g4 : (pushesN s ts door h t).length ≤ 8 := by
      unfold pushesN
      rw [List.length_map]
      exact Nat.le_trans (List.length_filter_le _ _) hT.few
    unfold leftN
    rw [List.length_append, List.length_reverse, List.length_cons]
    omega
/-- what is found leads back and may be exchanged -/
structure FitR (s : Scn) (ts : Tbs) (door n : Nat) (ps : Prs) : Prop where
  nd : (ps.map (·.1)).Nodup
  lt : ∀ kv ∈ ps, kv.1 < n ∧ kv.2 < n
  sy : ∀ x y, look ps x = some y → look ps y = some x
  cl : ∀ x y, look ps x = some y → ∀ kr ∈ ts, crossN s kr.1 door = true → look ps (kr.2.getD x 0) = some (kr.2.getD y 0)
theorem fit_ok {s : Scn} {ts : Tbs} {door n : Nat} (hT : TbsOk ts n) : ∀ (m : Nat) {ps todo r : Prs}, leftN n ps todo < m → FitI s ts door n ps todo → fitL s ts door m ps todo = some r → FitR s ts door n r
  | 0, _, _, _, hm, _, _ => absurd hm (Nat.not_lt_zero _)
  | m + 1, ps, [], r, _, I, e => by
    have e : some ps = some r := e
    cases e
    exact ⟨I.nd, I.lt, I.sy, fun x y hx kr hkr hc => by
      rcases I.cl x y hx kr hkr hc with q | q | q
      · exact q
      · cases q
      · cases q⟩
  | m + 1, ps, (h, t) :: todo, r, hm, I, e => by
    unfold fitL at e
    split at e
    · rename_i hk
      split at e
      · rename_i hh
        obtain ⟨I', l⟩ := fit_skip I hk.1 hh
        exact fit_ok hT m (by omega) I' e
      · rename_i hh
        obtain ⟨I', l⟩ := fit_put hT I hk.2 (by simpa using hh)
        exact fit_ok hT m (by omega) I' e
    · cases e

def mrgP (row ps : Prs) : Prs := ps.foldl (fun acc kv => put acc kv.1 kv.2) row
theorem look_mrg {x : Nat} : ∀ {ps row : Prs}, (ps.map (·.1)).Nodup → look (mrgP row ps) x = if x ∈ ps.map (·.1) then look ps x else look row x
  | [], row, _ => by simp [mrgP]
  | (a, y) :: ps, row, hn => by
    rw [List.map_cons, List.nodup_cons] at hn
    show look (mrgP (put row a y) ps) x = _
    rw [look_mrg hn.2, look_put]
    by_cases e : a = x
    · subst e
      rw [if_neg hn.1, if_pos rfl, if_pos (by simp)]
      exact (if_pos rfl).symm
    · have : look ((a, y) :: ps) x = look ps x := if_neg e
      rw [this, if_neg e]
      by_cases q : x ∈ ps.map (·.1)
      · rw [if_pos q, if_pos (by simp [q])]
      · rw [if_neg q, if_neg (by simp only [List.map_cons, List.mem_cons, not_or]; exact ⟨Ne.symm e, q⟩)]
theorem mrg_nd : ∀ {ps row : Prs}, (row.map (·.1)).Nodup → ((mrgP row ps).map (·.1)).Nodup
  | [], _, h => h
  | (a, y) :: ps, row, h => mrg_nd (ps := ps) (row := put row a y) (put_nd h)
theorem mrg_memP : ∀ {ps row : Prs} {kv : Nat × Nat}, kv ∈ mrgP row ps → kv ∈ row ∨ kv ∈ ps
  | [], _, _, h => .inl h
  | (a, y) :: ps, row, kv, h => by
    rcases mrg_memP (ps := ps) (row := put row a y) h with q | q
    · rcases put_memP q with q | q
      · exact .inl q
      · exact .inr (by rw [q]; exact List.mem_cons_self ..)
    · exact .inr (List.mem_cons_of_mem _ q)
theorem look_key {ps : Prs} {x y : Nat} (h : look ps x = some y) : x ∈ ps.map (·.1) := look_mem.mp (by rw [h]; rfl)
theorem FitR.mrg {s : Scn} {ts : Tbs} {door n : Nat} {row ps : Prs} (hr : FitR s ts door n row) (hp : FitR s ts door n ps) (hd : ∀ x ∈ ps.map (·.1), x ∉ row.map (·.1)) : FitR s ts door n (mrgP row ps) where
  nd := mrg_nd hr.nd
  lt kv q := by
    rcases mrg_memP q with q | q
    · exact hr.lt kv q
    · exact hp.lt kv q
  sy x y h := by
    rw [look_mrg hp.nd] at h ⊢
    by_cases q : x ∈ ps.map (·.1)
    · rw [if_pos q] at h
      have h2 := hp.sy x y h
      rw [if_pos (look_key h2)]; exact h2
    · rw [if_neg q] at h
      have h2 := hr.sy x y h
      rw [if_neg fun z => hd y z (look_key h2)]; exact h2
  cl x y h kr hkr hc := by
    rw [look_mrg hp.nd] at h ⊢
    by_cases q : x ∈ ps.map (·.1)
    · rw [if_pos q] at h
      have h2 := hp.cl x y h kr hkr hc
      rw [if_pos (look_key h2)]; exact h2
    · rw [if_neg q] at h
      have h2 := hr.cl x y h kr hkr hc
      rw [if_neg fun z => hd _ z (look_key h2)]; exact h2
def rowOf (row : Prs) (n : Nat) : List Nat := (List.range n).map fun c => (look row c).getD c
theorem rowOf_at {row : Prs} {n c : Nat} (h : c < n) : (rowOf row n).getD c 0 = (look row c).getD c := by
  unfold rowOf; simp [List.getD_eq_getElem?_getD, h]
theorem rowOf_ok {s : Scn} {ts : Tbs} {door n : Nat} {row : Prs} (hT : TbsOk ts n) (h : FitR s ts door n row) : (rowOf row n).length = n ∧ (∀ c, c < n → (rowOf row n).getD c 0 < n ∧ (rowOf row n).getD ((rowOf row n).getD c 0) 0 = c) ∧ ∀ kr ∈ ts, crossN s kr.1 door = true → ∀ c, c < n → (rowOf row n).getD (kr.2.getD c 0) 0 = kr.2.getD ((rowOf row n).getD c 0) 0 := by
  have hlt : ∀ c y, look row c = some y → y < n := fun c y e => (h.lt _ (look_memP e)).2
  refine ⟨by unfold rowOf; simp, fun c hc => ?_, fun kr hkr hcr c hc => ?_⟩
  · rw [rowOf_at hc]
    cases e : look row c with
    | none => exact ⟨hc, by rw [Option.getD_none, rowOf_at hc, e]; rfl⟩
    | some y =>
      have hy := hlt c y e
      exact ⟨hy, by rw [Option.getD_some, rowOf_at hy, h.sy c y e]; rfl⟩
  · obtain ⟨_, hr⟩ := hT.row kr hkr
    rw [rowOf_at (hr c hc).1, rowOf_at hc]
    cases e : look row c with
    | none =>
      cases e2 : look row (kr.2.getD c 0) with
      | none => rfl
      | some z =>
        have := h.cl _ _ e2 kr hkr hcr
        rw [(hr c hc).2, e] at this; cases this
    | some y => rw [h.cl c y e kr hkr hcr]; rfl
def fitP (s : Scn) (ts : Tbs) (door n : Nat) (a b : Int) : Option Prs := fitL s ts door (9 * n + 2) [] [(a.toNat, b.toNat)]
def cntN (n : Nat) (v : Int) : Int := ([(n : Int), 2 * (n : Int), 1, 0] : List Int).getD v.toNat 0
def turnStep (s : Scn) (ts : Tbs) (door n : Nat) (st : Prs × Pen) : Prs × Pen :=
  let d1 := drawP st.2 n
  let d2 := drawP d1.2 n
  match fitP s ts door n d1.1 d2.1 with
  | some ps => if (ps.map (·.1)).filter (fun x => decide (x ∈ st.1.map (·.1))) = [] then (mrgP st.1 ps, d2.2) else (st.1, d2.2)
  | none => (st.1, d2.2)
def turnsN (s : Scn) (ts : Tbs) (door n : Nat) (st : Prs × Pen) : Nat → Prs × Pen
  | 0 => st
  | k + 1 => turnStep s ts door n (turnsN s ts door n st k)
def doorP (s : Scn) (n : Nat) (st : Tbs × Pen) (door : Nat) : Tbs × Pen :=
  let d := drawP st.2 4
  let r := turnsN s st.1 door n ([], d.2) (cntN n d.1).toNat
  (st.1 ++ [(door, rowOf r.1 n)], r.2)
def doorsP (pen : Pen) (s : Scn) (n : Nat) : Tbs × Pen := s.kinds.foldl (doorP s n) ([], pen)
theorem FitR.nil (s : Scn) (ts : Tbs) (door n : Nat) : FitR s ts door n [] := ⟨by simp, fun kv h => (by cases h), fun x y h => (by cases h), fun x y h => (by cases h)⟩
theorem fitP_ok {s : Scn} {ts : Tbs} {door n : Nat} {a b : Int} {ps : Prs} (hT : TbsOk ts n) (ha : 0 ≤ a ∧ a < n) (hb : 0 ≤ b ∧ b < n) (h : fitP s ts door n a b = some ps) : FitR s ts door n ps := by
  refine fit_ok hT (9 * n + 2) (by unfold leftN; simp; omega) ⟨by simp, fun kv h => (by cases h), fun kv h => ?_, fun x y h => (by cases h), fun x y h => (by cases h)⟩ h
  rw [List.mem_singleton.mp h]
  exact ⟨by dsimp only; omega, by dsimp only; omega⟩
theorem turn_ok {s : Scn} {ts : Tbs} {door n N : Nat} {st : Prs × Pen} (hT : TbsOk ts n) (h0 : 0 < n) (h : FitR s ts door n st.1) (hp : PenOk N st.2) : FitR s ts door n (turnStep s ts door n st).1 ∧ PenOk (N + 2) (turnStep s ts door n st).2 := by
  have d1 := draw_bd st.2 (span := n) (by omega)
  have d2 := draw_bd (drawP st.2 n).2 (span := n) (by omega)
  have o1 := draw_ok hp n
  have o2 := draw_ok o1 n
  unfold turnStep
  dsimp only
  split
  · rename_i ps e
    have hf := fitP_ok hT d1 d2 e
    split
    · rename_i hd
      refine ⟨h.mrg hf fun x hx hxr => ?_, o2⟩
      have : x ∈ (ps.map (·.1)).filter fun x => decide (x ∈ st.1.map (·.1)) := List.mem_filter.mpr ⟨hx, decide_eq_true hxr⟩
      rw [hd] at this; cases this
    · exact ⟨h, o2⟩
  · exact ⟨h, o2⟩
theorem turns_ok {s : Scn} {ts : Tbs} {door n N : Nat} {st : Prs × Pen} (hT : TbsOk ts n) (h0 : 0 < n) (h : FitR s ts door n st.1) (hp : PenOk N st.2) : ∀ k, FitR s ts door n (turnsN s ts door n st k).1 ∧ PenOk (N + 2 * k) (turnsN s ts door n st k).2
  | 0 => ⟨h, hp⟩
  | k + 1 => by
    obtain ⟨a, b⟩ := turns_ok hT h0 h hp k
    exact turn_ok hT h0 a b
theorem cnt_bd {n : Nat} {v : Int} (h0 : 0 ≤ v) (h1 : v < 4) (hn : 0 < n) : 0 ≤ cntN n v ∧ cntN n v ≤ 2 * n := by
  have : v = 0 ∨ v = 1 ∨ v = 2 ∨ v = 3 := by omega
  rcases this with rfl | rfl | rfl | rfl
  · show 0 ≤ (n : Int) ∧ (n : Int) ≤ 2 * n; omega
  · show 0 ≤ 2 * (n : Int) ∧ 2 * (n : Int) ≤ 2 * n; omega
  · show 0 ≤ (1 : Int) ∧ (1 : Int) ≤ 2 * n; omega
  · show 0 ≤ (0 : Int) ∧ (0 : Int) ≤ 2 * n; omega
/-- the doors made so far -/
structure DoorsI (s : Scn) (n N : Nat) (ks : List Nat) (st : Tbs × Pen) : Prop where
  keys : st.1.map (·.1) = ks
  row : ∀ kr ∈ st.1, kr.2.length = n ∧ ∀ c, c < n → kr.2.getD c 0 < n ∧ kr.2.getD (kr.2.getD c 0) 0 = c
  com : st.1.Pairwise fun a b => crossN s a.1 b.1 = true → ∀ c, c < n → b.2.getD (a.2.getD c 0) 0 = a.2.getD (b.2.getD c 0) 0
  pen : PenOk (N + ks.length * (1 + 4 * n)) st.2
theorem door_ok {s : Scn} {n N k : Nat} {ks : List Nat} {st : Tbs × Pen} (h0 : 0 < n) (h8 : ks.length ≤ 8) (h : DoorsI s n N ks st) : DoorsI s n N (ks ++ [k]) (doorP s n st k) := by
  have hT : TbsOk st.1 n := ⟨by have := congrArg List.length h.keys; rw [List.length_map] at this; omega, h.row⟩
  have d := draw_bd st.2 (span := 4) (by decide)
  have o := draw_ok h.pen 4
  have hc := cnt_bd d.1 d.2 h0
  obtain ⟨r1, r2⟩ := turns_ok (door := k) (st := ([], (drawP st.2 4).2)) hT h0 (FitR.nil s st.1 k n) o (cntN n (drawP st.2 4).1).toNat
  obtain ⟨q1, q2, q3⟩ := rowOf_ok hT r1
  refine ⟨?_, fun kr hkr => ?_, ?_, ?_⟩
  · unfold doorP
    dsimp only
    rw [List.map_append, h.keys]; rfl
  · rcases List.mem_append.mp hkr with q | q
    · exact h.row kr q
    · rw [List.mem_singleton.mp q]; exact ⟨q1, q2⟩
  · unfold doorP
    dsimp only
    rw [List.pairwise_append]
    refine ⟨h.com, by simp, fun a ha b hb => ?_⟩
    rw [List.mem_singleton.mp hb]
    exact fun hc c hcn => q3 a ha hc c hcn
  · refine r2.mono ?_
    rw [List.length_append, List.length_singleton, Nat.add_mul]
    omega
theorem doors_ok {s : Scn} {n N : Nat} {pen : Pen} (h0 : 0 < n) (h8 : s.kinds.length ≤ 8) (hp : PenOk N pen) : DoorsI s n N s.kinds (doorsP pen s n) := by
  have key : ∀ (ks ds : List Nat) (st : Tbs × Pen), (ds ++ ks).length ≤ 8 → DoorsI s n N ds st → DoorsI s n N (ds ++ ks) (ks.foldl (doorP s n) st) := by
    intro ks
    induction ks with
    | nil => intro ds st _ h; rw [List.append_nil]; exact h
    | cons k ks ih =>
      intro ds st hl h
      have := ih (ds ++ [k]) (doorP s n st k) (by simpa using hl) (door_ok h0 (by rw [List.length_append] at hl; omega) h)
      rwa [List.append_assoc] at this
  have := key s.kinds [] ([], pen) (by simpa using h8) ⟨rfl, fun kr h => (by cases h), .nil, by simpa using hp⟩
  rw [List.nil_append] at this
  exact this
/-- the tables are as a closed floor's must be -/
theorem doors_tab {s : Scn} {n N : Nat} {st : Tbs × Pen} (hT : Told s.kinds s.pairs) (h0 : 0 < n) (h : DoorsI s n N s.kinds st) : TabOk s.pl (st.1.map (·.2)) n where
  len := by
    have := congrArg List.length h.keys
    rw [List.length_map] at this
    rw [List.length_map, hT.kinds]; exact this
  pos := h0
  row r hr := by
    obtain ⟨kr, h1, rfl⟩ := List.mem_map.mp hr
    exact h.row kr h1
  com a b hab c hc := by
    have hab' := hT.pair.mp hab
    obtain ⟨x, y, e, hxy, hx, hy⟩ := hT.two _ hab'
    cases e
    have hn : s.kinds.Nodup := hT.asc.imp Nat.ne_of_lt
    have hl : st.1.length = s.kinds.length := by have := congrArg List.length h.keys; rwa [List.length_map] at this
    have hia := List.idxOf_lt_length_iff.mpr hx
    have hib := List.idxOf_lt_length_iff.mpr hy
    have hij : s.kinds.idxOf a < s.kinds.idxOf b := by
      rcases Nat.lt_trichotomy (s.kinds.idxOf a) (s.kinds.idxOf b) with q | q | q
      · exact q
      · have := idx_getD hx
        rw [q, idx_getD hy] at this; omega
      · have := getD_lt hT.asc q hia
        rw [idx_getD hx, idx_getD hy] at this; omega
    have ek : ∀ k, k ∈ s.kinds → ∀ i (hi : i < st.1.length), i = s.kinds.idxOf k → (st.1[i]).1 = k ∧ ∀ c, tb s.pl (st.1.map (·.2)) k c = (st.1[i]).2.getD c 0 := fun k hk i hi e => by
      have e1 : (st.1.map (·.1))[i]? = some (st.1[i]).1 := by simp [hi]
      rw [h.keys] at e1
      have e2 := idx_getD hk
      rw [← e, List.getD_eq_getElem?_getD, e1] at e2
      refine ⟨e2, fun c => ?_⟩
      unfold tb
      rw [hT.kinds, ← e]
      simp [List.getD_eq_getElem?_getD, hi]
    obtain ⟨a1, a2⟩ := ek a hx _ (by omega) rfl
    obtain ⟨b1, b2⟩ := ek b hy _ (by omega) rfl
    rw [a2, b2, b2, a2]
    refine List.pairwise_iff_getElem.mp h.com _ _ (by omega) (by omega) hij ?_ c hc
    rw [a1, b1]
    unfold crossN
    rw [show [a] ++ [b] = [a, b] from rfl, decide_eq_true hab']; rfl

section
variable {P : Program} {w : World} {K : PySem.W.Frag} {mg : Str → Option Value} {base : Heap} [Txt K mg]
abbrev tabK (ts : Tbs) : List (DK × D) := ts.map fun kr : Nat × List Nat => (Sum.inr [kr.1], rowL kr.2)
abbrev prsK (ps : Prs) : List (DK × D) := ps.map fun ab : Nat × Nat => (Sum.inl (ab.1 : Int), nD ab.2)
abbrev prT (ab : Nat × Nat) : D := .tup [nD ab.1, nD ab.2]
theorem look_prs {ps : Prs} {k : Nat} : look (prsK ps) (Sum.inl (k : Int)) = (look ps k).map nD := look_mapG (inj := fun n : Nat => (Sum.inl (n : Int) : DK)) (fun a b h => inl_inj a b h) k ps
theorem put_prs {ps : Prs} {k v : Nat} : put (prsK ps) (Sum.inl (k : Int)) (nD v) = prsK (put ps k v) := put_mapG (inj := fun n : Nat => (Sum.inl (n : Int) : DK)) (fun a b h => inl_inj a b h) k v ps
theorem tab_inj (a b : Nat) (h : (Sum.inr [a] : DK) = Sum.inr [b]) : a = b := by simpa using h
theorem look_tab {ts : Tbs} {k : Nat} : look (tabK ts) (Sum.inr [k]) = (look ts k).map rowL := look_mapG (inj := fun n : Nat => (Sum.inr [n] : DK)) (fun a b h => tab_inj a b h) k ts
theorem look_nd {ts : Tbs} {k : Nat} {r : List Nat} (hn : (ts.map (·.1)).Nodup) (h : (k, r) ∈ ts) : look ts k = some r := by
  induction ts with
  | nil => cases h
  | cons a ts ih =>
    obtain ⟨a, y⟩ := a
    rw [List.map_cons, List.nodup_cons] at hn
    show (if a = k then some y else look ts k) = some r
    rcases List.mem_cons.mp h with q | q
    · cases q; exact if_pos rfl
    · rw [if_neg fun e => hn.1 (by rw [e]; exact List.mem_map_of_mem (f := (·.1)) q)]
      exact ih hn.2 q
def oPrs : Option Prs → D
  | none => .non
  | some ps => .dct (prsK ps)
/-- the dict of tables stands in memory -/
abbrev rFit (K : PySem.W.Frag) : DRel := RelO (fun (a : Scn × Tbs × Nat × Nat × Nat × Nat) q => [sceneD K a.1, .ref q, .str [a.2.2.1], nD a.2.2.2.2.1, nD a.2.2.2.2.2]) (fun a => .dK (tabK a.2.1)) (fun a => TbsOk a.2.1 a.2.2.2.1 ∧ (a.2.1.map (·.1)).Nodup ∧ a.2.2.2.2.1 < a.2.2.2.1 ∧ a.2.2.2.2.2 < a.2.2.2.1 ∧ a.2.2.2.1 ≤ 1000) (fun a => oPrs (fitL a.1 a.2.1 a.2.2.1 (9 * a.2.2.2.1 + 2) [] [(a.2.2.2.2.1, a.2.2.2.2.2)])) (fun a => .dK (tabK a.2.1))
theorem f_fit : FnS P w K mg base "_law_fit" 2 [] (rFit K) := by
  refine mk_l_fit (relO_len fun _ _ => rfl) (relO_body ?_)
  rintro ⟨s, ts, door, n, one, two⟩ q ⟨hT, hn, h1, h2, h3⟩
  dsimp only [start0, N_l_fit] at *
  wtm_at "bd"
  refine ss_par2 (by wtm_at "put_") (pns_n pn_dct ?_) ⟨_, by wtm_at "put_"⟩
  rintro _ _ ⟨d, rfl, rfl⟩
  refine pns_n (pn_lst (pas1 (pv_tup (by wtm_at "args") (sz_line (by simp)))) (sz_line (by simp))) ?_
  rintro _ _ ⟨z, rfl, rfl⟩
  refine ⟨_, _, _, rfl, by wtm_at "put_", ?_⟩
  generalize hR : fitL s ts door (9 * n + 2) [] [(one, two)] = R
  have I0 : FitI s ts door n [] [(one, two)] := ⟨by simp, fun kv h => (by cases h), fun kv h => by rw [List.mem_singleton.mp h]; exact ⟨h1, h2⟩, fun x y h => (by cases h), fun x y h => (by cases h)⟩
  let ev : Option D → Option D → Option D → Option D → Option D → Dl.Env := fun o1 o2 o3 o4 o5 => [("_law_scene_here", some (sceneD K s)), ("_law_tables", some (.ref q)), ("_law_door", some (.str [door])), ("_law_one", some (nD one)), ("_law_two", some (nD two)), ("_law_pairs", some (.ref d)), ("_law_todo", some (.ref z)), ("_law_here", o1), ("_law_there", o2), ("_law_start", o3), ("_law_goal", o4), ("_law_other", o5)]
  refine ss_while (fun m ρ M => ∃ ps todo, leftN n ps todo < m ∧ m ≤ 9 * n + 2 ∧ FitI s ts door n ps todo ∧ fitL s ts door m ps todo = R ∧ M = [(z, .lst (todo.reverse.map prT)), (d, .dK (prsK ps)), (q, .dK (tabK ts))] ∧ ∃ o1 o2 o3 o4 o5, ρ = ev o1 o2 o3 o4 o5) (n := 9 * n + 2) ⟨[], [(one, two)], by unfold leftN; simp; omega, Nat.le_refl _, I0, hR, rfl, none, none, none, none, none, rfl⟩ ?_
  rintro m ρ M ⟨ps, todo, hm, hmax, I, hf, rfl, o1, o2, o3, o4, o5, rfl⟩
  dsimp only [ev]
  have hps : ps.length ≤ n := keys_len I.nd fun kv q => (I.lt kv q).1
  have flt : Fls 1 (todo.reverse.map prT) := by
    rw [fls_iff]
    intro x hx
    obtain ⟨ab, _, rfl⟩ := List.mem_map.mp hx
    unfold Fl Fls Fl Fls Fl Fls
    exact ⟨trivial, trivial, trivial⟩
  refine ⟨decide (todo ≠ []), _, pb_cmp (by wtm_at "ev") (by wtm_at "ev") (o_neP (n := 2) (m := 2) (pdatM flt (by wtm_at "mat_")) (pdat (n := 2) (x := .lst []) (by unfold Fl Fls; trivial)) (by unfold Fl; exact flt) (by unfold Fl Fls; trivial) (by simp)), fun hk => ?_, fun hk => ?_⟩
  · have hk : todo ≠ [] := of_decide_eq_true hk
    obtain ⟨m, rfl⟩ : ∃ m', m = m' + 1 := ⟨m - 1, by omega⟩
    cases todo with
    | nil => exact absurd rfl hk
    | cons ht todo =>
      obtain ⟨h, t⟩ := ht
      obtain ⟨bh, bt⟩ := I.td (h, t) (List.mem_cons_self ..)
      dsimp only at bh bt
      have er : ((h, t) :: todo).reverse.map prT = todo.reverse.map prT ++ [prT (h, t)] := by rw [List.reverse_cons, List.map_append]; rfl
      have hlast : (((h, t) :: todo).reverse.map prT)[(((h, t) :: todo).reverse.map prT).length - 1]? = some (prT (h, t)) := by rw [er]; simp
      have hdl : (((h, t) :: todo).reverse.map prT).dropLast = todo.reverse.map prT := by rw [er]; simp
      refine ss_tgt (pgn_nm2 (i := 7) (j := 8) (by wtm_at "nix") (by wtm_at "nix") (by dsimp only; decide +kernel)) (pn_v (M1 := [(z, .lst (todo.reverse.map prT)), (d, .dK (prsK ps)), (q, .dK (tabK ts))]) (pv_pop (by wtm_at "ev") (by wtm_at "mat_") hlast (by rw [hdl]; exact MPut.here)) ?_)
      refine ⟨_, ⟨_, _, _, _, rfl, by wtm_at "put_", by wtm_at "put_", rfl⟩, ?_⟩
      have hget : ∀ (cc : Cfg) (ρ : Dl.Env) (e : Expr) (ea eb : Expr) (apos cpos : Pos) (x y : Nat) (M : Mem), MAt M d (.dK (prsK ps)) → PV cc e ρ M (.ref d) M → PV cc ea ρ M (nD x) M → PV cc eb ρ M (nD y) M → (∀ env : PySem.Env, attributeBase e "get" env (eval e env) = eval e env) → (∀ env : PySem.Env, ((backTo cpos (starEach [ea, eb] env)).all (fun x => !x.1) && (backToKw cpos (keywordEach [] env)).all (fun x => x.1.isSome) && decide (([ea, eb] : List Expr).length + ([] : List Keyword).length + (if ([] : List Keyword).isEmpty then 0 else 1) < 30)) = true) → (apos.endLine == cpos.line) = true → (∀ env : PySem.Env, backTo cpos (starEach [ea, eb] env) = [(false, eval ea env), (false, eval eb env)]) → PV cc (.Call (.Attribute e "get" apos) [ea, eb] [] cpos) ρ M (.int ((look ps x).getD y : Nat)) M := fun cc ρ e ea eb apos cpos x y M hm he ha hb h1 h2 h3 h4 =>
        pv_eq (pv_dget2 he ⟨_, dctM_at hm⟩ ha (kI _) hb (dctM_at hm) rfl h1 h2 h3 h4) (by rw [look_prs]; cases look ps x <;> rfl)
      have hbad : ¬ (okN ps h t = true ∧ okN ps t h = true) → R = none := fun hb => by rw [← hf]; exact if_neg hb
      refine ss_for (pin_of (pv_lst (by wtm_at "args") (sz_line (by simp))) px_lst) (by wtm_at "tgn") (fun i ρ M => M = [(z, .lst (todo.reverse.map prT)), (d, .dK (prsK ps)), (q, .dK (tabK ts))] ∧ (1 ≤ i → okN ps h t = true) ∧ (2 ≤ i → okN ps t h = true) ∧ ∃ o3 o4 o5, ρ = ev (some (nD h)) (some (nD t)) o3 o4 o5) ⟨rfl, fun h => by omega, fun h => by omega, _, _, _, rfl⟩ ?_ ?_
      · rintro i x ρ M hx ⟨rfl, k1, k2, o3, o4, o5, rfl⟩
        obtain ⟨a, b, rfl, hab⟩ : ∃ a b, x = .tup [nD a, nD b] ∧ ((i = 0 ∧ a = h ∧ b = t) ∨ (i = 1 ∧ a = t ∧ b = h)) := by
          rcases i with _ | _ | i
          · exact ⟨h, t, (Option.some.inj hx).symm, .inl ⟨rfl, rfl, rfl⟩⟩
          · exact ⟨t, h, (Option.some.inj hx).symm, .inr ⟨rfl, rfl, rfl⟩⟩
          · simp at hx
        dsimp only [ev]
        refine ⟨_, ⟨_, _, _, _, rfl, by wtm_at "put_", by wtm_at "put_", rfl⟩, ?_⟩
        refine ss_if (M1 := [(z, .lst (todo.reverse.map prT)), (d, .dK (prsK ps)), (q, .dK (tabK ts))]) (pb_cmp (hget _ _ _ _ _ _ _ a b _ (by wtm_at "mat_") (by wtm_at "ev") (by wtm_at "ev") (by wtm_at "ev") (by intro _; rfl) (by intro _; rfl) (by rfl) (by intro _; rfl)) (by wtm_at "ev") o_neI) (fun hk => ?_) (fun hk => ss_nil (ss_nil ?_))
        · have hb : okN ps a b ≠ true := fun e => by
            have e := of_decide_eq_true e
            rw [e] at hk; simp at hk
          have : R = none := hbad fun hb2 => by
            rcases hab with ⟨_, rfl, rfl⟩ | ⟨_, rfl, rfl⟩
            · exact hb hb2.1
            · exact hb hb2.2
          rw [this]
          exact ss_ret (pv_drop (pv_drop pv_non (by wtm_at "mcut_")) (by wtm_at "mcut_")) ⟨rfl, rfl⟩
        · have hb : okN ps a b = true := decide_eq_true (by
            have : ((look ps a).getD b : Int) = b := by simpa using hk
            omega)
          refine ⟨rfl, fun _ => ?_, fun h2 => ?_, _, _, _, rfl⟩
          · rcases hab with ⟨rfl, rfl, rfl⟩ | ⟨rfl, rfl, rfl⟩
            · exact hb
            · exact k1 (by omega)
          · rcases hab with ⟨rfl, rfl, rfl⟩ | ⟨rfl, rfl, rfl⟩
            · omega
            · exact hb
      rintro ρ M ⟨rfl, k1, k2, o3, o4, o5, rfl⟩
      have k1 := k1 (by simp)
      have k2 := k2 (by simp)
      dsimp only [ev]
      have hcont : R = if (look ps h).isSome = true then fitL s ts door m ps todo else fitL s ts door m (put (put ps h t) t h) ((pushesN s ts door h t).reverse ++ todo) := by
        rw [← hf]; exact if_pos ⟨k1, k2⟩
      have hlk : (look (prsK ps) (Sum.inl (h : Int))).isSome = (look ps h).isSome := by rw [look_prs, Option.isSome_map]
      refine ss_if (by wtm_at "evb") (fun hk => ?_) fun hk => ss_nil (ss_nil ?_)
      · rw [hlk] at hk
        have hh : (look ps h).isSome = false := by simpa using hk
        obtain ⟨I', l'⟩ := fit_put hT I k2 hh
        rw [hh, if_neg (by simp)] at hcont
        have hp1 := put_lenP (ps := ps) (k := h) (v := t)
        have hgp := put_grow (v := t) (k := h) (ps := ps) (by simpa using hh)
        refine ss_dput2 (kvs := prsK ps) (j1 := Sum.inl (h : Int)) (j2 := Sum.inl (t : Int)) (p := d) (pns_v (d := nD t) (M1 := [(z, .lst (todo.reverse.map prT)), (d, .dK (prsK ps)), (q, .dK (tabK ts))]) (by wtm_at "ev") (pns_v (d := nD h) (M1 := [(z, .lst (todo.reverse.map prT)), (d, .dK (prsK ps)), (q, .dK (tabK ts))]) (by wtm_at "ev") ?_))
        refine ⟨_, _, rfl, by wtm_at "ev", by exact pv_eq (d := nD h) (by wtm_at "ev") rfl, by wtm_at "mat_", sz_lt (by simp; omega), _, _, by wtm_at "mput_", by wtm_at "ev", by exact pv_eq (d := nD t) (by wtm_at "ev") rfl, by wtm_at "mat_", by wtm_at "mput_", ?_⟩
        rw [put_prs, put_prs]
        generalize put (put ps h t) t h = ps2 at *
        have htl : todo.length + 8 ≤ 100000 := by
          have e1 : leftN n ps ((h, t) :: todo) < 9 * n + 3 := by
            have := hmax; omega
          unfold leftN at e1
          rw [List.length_cons] at e1
          omega
        refine ss_lock (p := q) (kvs := tabK ts) (by wtm_at "mat_") (fun u => by wtm_at "mput_") fun u => ?_
        refine ps_for' (pin_keysL (by wtm_at "ev") (by wtm_at "mat_")) (by wtm_at "tgn") (fun i ρ M => M = [(z, .lst ((todo.reverse ++ ((ts.take i).filter fun kr => crossN s kr.1 door).map fun kr => (kr.2.getD h 0, kr.2.getD t 0)).map prT)), (d, .dK (prsK ps2)), (q, .dKL (tabK ts) u)] ∧ ∃ o3 o4 o5, ρ = ev (some (nD h)) (some (nD t)) o3 o4 o5) (fun i ρ M ⟨e, _⟩ => by rw [e]; wtm_at "mat_") ⟨by simp, _, _, _, rfl⟩ ?_ ?_
        · rintro i x ρ M hx ⟨rfl, o3, o4, o5, rfl⟩
          rw [List.map_map] at hx
          obtain ⟨⟨k, r⟩, e1, e2, rfl⟩ := map_get hx
          have hkr := List.mem_of_getElem? e1
          have hrow := hT.row _ hkr
          have hlk2 : look (tabK ts) (Sum.inr [k]) = some (rowL r) := by rw [look_tab, look_nd hn hkr]; rfl
          have hhr : h < r.length := by rw [hrow.1]; exact bh
          have htr : t < r.length := by rw [hrow.1]; exact bt
          have etk : ts.take (i + 1) = ts.take i ++ [(k, r)] := by rw [List.take_add_one, e1]; rfl
          have hfl : ((todo.reverse ++ ((ts.take i).filter fun kr => crossN s kr.1 door).map fun kr => (kr.2.getD h 0, kr.2.getD t 0)).map prT).length < sizeLine := sz_lt (by
            rw [List.length_map, List.length_append, List.length_reverse, List.length_map]
            have g1 := List.length_filter_le (fun kr : Nat × List Nat => crossN s kr.1 door) (ts.take i)
            have g2 := hT.few
            rw [List.length_take] at g1
            omega)
          dsimp only [ev, Function.comp, kD]
          refine ⟨_, ⟨_, by wtm_at "put_", rfl⟩, ?_⟩
          refine ss_if (M1 := [(z, .lst ((todo.reverse ++ ((ts.take i).filter fun kr => crossN s kr.1 door).map fun kr => (kr.2.getD h 0, kr.2.getD t 0)).map prT)), (d, .dK (prsK ps2)), (q, .dKL (tabK ts) u)]) (pb_val (pv_callF f_cross (s, k, door) trivial (by wtm_at "args"))) (fun hc => ?_) (fun hc => ss_nil (ss_nil ⟨?_, _, _, _, rfl⟩))
          · have hgt : ∀ (cc : Cfg) (ρ : Dl.Env) (M : Mem) (a b : Expr) (pos : Pos), MAt M q (.dKL (tabK ts) u) → PV cc a ρ M (.ref q) M → PV cc b ρ M (.str [k]) M → NoSl b → PV cc (.Subscript a b pos) ρ M (rowL r) M := fun cc ρ M a b pos hm h1 h2 h3 => pv_dgetA (j := Sum.inr [k]) h1 h2 (dctL_at hm) hlk2 h3
            refine ss_expr (pv_append (d := prT (r.getD h 0, r.getD t 0)) (M2 := [(z, .lst ((todo.reverse ++ ((ts.take i).filter fun kr => crossN s kr.1 door).map fun kr => (kr.2.getD h 0, kr.2.getD t 0)).map prT)), (d, .dK (prsK ps2)), (q, .dKL (tabK ts) u)]) (by wtm_at "ev") (by wtm_at "mat_") (pv_tup (pas_cons (pv_sub (hgt _ _ _ _ _ _ (by wtm_at "mat_") (by wtm_at "ev") (by wtm_at "ev") (fun _ _ => rfl)) (by wtm_at "ev") (ix_nL hhr)) (pas1 (pv_sub (hgt _ _ _ _ _ _ (by wtm_at "mat_") (by wtm_at "ev") (by wtm_at "ev") (fun _ _ => rfl)) (by wtm_at "ev") (ix_nL htr)))) (sz_line (by simp))) (by wtm_at "mat_") (by wtm_at "mput_") hfl) ?_
            refine ss_nil (ss_nil ⟨?_, _, _, _, rfl⟩)
            rw [etk, List.filter_append, List.map_append, List.filter_cons_of_pos (by simpa using hc)]
            simp
          · rw [etk, List.filter_append, List.filter_cons_of_neg (by simpa using hc)]
            simp
        · rintro ρ M ⟨rfl, o3, o4, o5, rfl⟩
          rw [List.length_map, List.length_map, List.take_length]
          refine ⟨_, by wtm_at "mat_", by wtm_at "mput_", ss_nil (ss_nil ⟨m, by omega, ps2, (pushesN s ts door h t).reverse ++ todo, by omega, by omega, I', hcont.symm, ?_, _, _, _, _, _, rfl⟩)⟩
          rw [List.reverse_append, List.reverse_reverse]; rfl
      · rw [hlk] at hk
        have hh : (look ps h).isSome = true := by simpa using hk
        obtain ⟨I', l'⟩ := fit_skip I k1 hh
        rw [hh, if_pos rfl] at hcont
        exact ⟨m, by omega, ps, todo, by omega, by omega, I', hcont.symm, rfl, _, _, _, _, _, rfl⟩
  · have hk : todo = [] := by simpa using hk
    subst hk
    have : R = some ps := by
      rw [← hf]
      cases m with
      | zero => omega
      | succ m => rfl
    rw [this]
    refine ss_ret (pv_drop (pv_frzD (by wtm_at "ev") (by wtm_at "mcut_")) (by wtm_at "mcut_")) ⟨rfl, rfl⟩
end

section
variable {P : Program} {w : World} {K : PySem.W.Frag} {mg : Str → Option Value} {base : Heap} [Txt K mg]
theorem pick_cnt (pen : Pen) (n : Nat) : pickV pen [.int (n : Int), .int (2 * (n : Int)), .int 1, .int 0] = .int (cntN n (drawP pen 4).1) := by
  have h := draw_bd pen (span := 4) (by decide)
  unfold pickV cntN
  show List.getD [D.int (n : Int), .int (2 * (n : Int)), .int 1, .int 0] (drawP pen 4).1.toNat .non = _
  have : (drawP pen 4).1 = 0 ∨ (drawP pen 4).1 = 1 ∨ (drawP pen 4).1 = 2 ∨ (drawP pen 4).1 = 3 := by omega
  rcases this with e | e | e | e <;> rw [e] <;> rfl
theorem mrg_prs : ∀ {ps row : Prs}, mrg (prsK row) (prsK ps) = prsK (mrgP row ps)
  | [], _ => rfl
  | (a, y) :: ps, row => by
    show mrg (put (prsK row) (Sum.inl (a : Int)) (nD y)) (prsK ps) = _
    rw [put_prs, mrg_prs]; rfl
theorem has_prs {row : Prs} {x : Nat} : (look (prsK row) (Sum.inl (x : Int))).isSome = decide (x ∈ row.map (·.1)) := by
  rw [look_prs, Option.isSome_map, Bool.eq_iff_iff, look_mem, decide_eq_true_eq]
theorem put_tab {ts : Tbs} {k : Nat} {r : List Nat} (h : k ∉ ts.map (·.1)) : put (tabK ts) (Sum.inr [k]) (rowL r) = tabK (ts ++ [(k, r)]) := by
  have e : put ts k r = ts ++ [(k, r)] := by
    unfold put
    rw [if_neg fun q => h (look_mem.mp q)]
  rw [← e]
  exact put_mapG (inj := fun n : Nat => (Sum.inr [n] : DK)) (fun a b h => tab_inj a b h) k r ts
abbrev rDoors (K : PySem.W.Frag) : DRel := RelO (fun (a : Pen × Scn × Nat) q => [.ref q, sceneD K a.2.1, nD a.2.2]) (fun a => .dK (penK a.1)) (fun a => PenOk 900000 a.1 ∧ 0 < a.2.2 ∧ a.2.2 ≤ 40 ∧ a.2.1.kinds.length ≤ 8 ∧ a.2.1.kinds.Nodup) (fun a => .dct (tabK (doorsP a.1 a.2.1 a.2.2).1)) (fun a => .dK (penK (doorsP a.1 a.2.1 a.2.2).2))
theorem f_doors : FnS P w K mg base "_law_doors" 3 [] (rDoors K) := by
  refine mk_l_doors (relO_len fun _ _ => rfl) (relO_body ?_)
  rintro ⟨pen, s, n⟩ q ⟨hp, h0, h40, h8, hnd⟩
  dsimp only [start0, N_l_doors] at *
  wtm_at "bd"
  have k1 := lk_kinds (K := K) s
  refine ss_setN (by wtm_at "put_") (pn_imp pn_dct ?_)
  rintro _ _ ⟨z, rfl, rfl⟩
  have hD : ∀ i, i ≤ s.kinds.length → DoorsI s n 900000 (s.kinds.take i) ((s.kinds.take i).foldl (doorP s n) ([], pen)) := by
    intro i
    induction i with
    | zero => intro _; exact ⟨rfl, fun kr h => (by cases h), List.Pairwise.nil, by simpa using hp⟩
    | succ i ih =>
      intro hi
      have := door_ok (k := s.kinds[i]) h0 (by rw [List.length_take]; omega) (ih (by omega))
      rw [List.take_add_one, List.getElem?_eq_getElem (by omega)]
      rwa [List.foldl_append]
  let ev : Option D → Option D → Option D → Option D → Dl.Env := fun o1 o2 o3 o4 => [("_law_pen", some (.ref q)), ("_law_scene_here", some (sceneD K s)), ("_law_many", some (nD n)), ("_law_tables", some (.ref z)), ("_law_door", o1), ("_law_row", o2), ("_law_turn", o3), ("_law_pairs", o4), ("_law_place", none)]
  refine ss_for (pin_of (pv_sub (by wtm_at "ev") (by wtm_at "ev") (ix_D (j := Sum.inr _) rfl k1)) px_str) (by wtm_at "tgn") (fun i ρ M => M = [(z, .dK (tabK ((s.kinds.take i).foldl (doorP s n) ([], pen)).1)), (q, .dK (penK ((s.kinds.take i).foldl (doorP s n) ([], pen)).2))] ∧ ∃ o1 o2 o3 o4, ρ = ev o1 o2 o3 o4) ⟨rfl, none, none, none, none, rfl⟩ ?_ ?_
  · rintro i x ρ M hx ⟨rfl, o1, o2, o3, o4, rfl⟩
    obtain ⟨k, e1, e2, rfl⟩ := map_get hx
    have hI := hD i (by omega)
    have hst : (s.kinds.take (i + 1)).foldl (doorP s n) ([], pen) = doorP s n ((s.kinds.take i).foldl (doorP s n) ([], pen)) k := by
      rw [List.take_add_one, e1, List.foldl_append]; rfl
    rw [hst]
    have hkn : k ∉ (((s.kinds.take i).foldl (doorP s n) ([], pen)).1).map (·.1) := by
      rw [hI.keys]
      intro hm
      obtain ⟨j, hj⟩ := List.getElem?_of_mem hm
      have hj2 := (List.getElem?_eq_some_iff.mp hj).1
      rw [List.length_take] at hj2
      rw [List.getElem?_take_of_lt (by omega)] at hj
      have := (List.getElem?_inj (by omega) hnd).mp (hj.trans e1.symm)
      omega
    have hkeys : ((((s.kinds.take i).foldl (doorP s n) ([], pen)).1).map (·.1)).Nodup := by
      rw [hI.keys]; exact (List.take_sublist _ _).nodup hnd
    have hTb : TbsOk ((s.kinds.take i).foldl (doorP s n) ([], pen)).1 n := ⟨by
      have := congrArg List.length hI.keys
      rw [List.length_map, List.length_take] at this
      omega, hI.row⟩
    have hpen := hI.pen
    rw [List.length_take] at hpen
    have hpen : PenOk 950000 ((s.kinds.take i).foldl (doorP s n) ([], pen)).2 := hpen.mono (by
      have : min i s.kinds.length * (1 + 4 * n) ≤ 8 * (1 + 4 * n) := Nat.mul_le_mul_right _ (by omega)
      omega)
    generalize (s.kinds.take i).foldl (doorP s n) ([], pen) = st at *
    clear hD hI hst
    dsimp only [ev]
    refine ⟨_, ⟨_, by wtm_at "put_", rfl⟩, ?_⟩
    refine ss_setE (by wtm_at "put_") (pn_imp pn_dct ?_)
    rintro _ _ ⟨rw_, rfl, rfl⟩
    have d4 := draw_bd st.2 (span := 4) (by decide)
    have o4' := draw_ok hpen 4
    have hcb := cnt_bd d4.1 d4.2 h0
    unfold doorP
    dsimp only
    refine ss_for (M1 := [(rw_, .dK []), (z, .dK (tabK st.1)), (q, .dK (penK (drawP st.2 4).2))]) (pin_range (n := cntN n (drawP st.2 4).1) (pv_eq (pv_callO f_pick (st.2, true, [.int (n : Int), .int (2 * (n : Int)), .int 1, .int 0]) ⟨by simp, by simp, hpen.mono (by omega)⟩ (pas_cons (by wtm_at "ev") (pas1 (pv_lst (pas_cons (by wtm_at "ev") (pas_cons (pv_bin (by wtm_at "ev") (by wtm_at "ev") (o_mul (.inl ⟨by decide, by decide⟩))) (by wtm_at "args"))) (sz_line (by simp))))) (MCut.there (MCut.there MCut.here)) (MCut.there (MCut.there MCut.here))) (pick_cnt _ _)) (by wtm_at "gf") (by omega) (by omega)) (by wtm_at "tgn") (fun j ρ M => M = [(rw_, .dK (prsK (turnsN s st.1 k n ([], (drawP st.2 4).2) j).1)), (z, .dK (tabK st.1)), (q, .dK (penK (turnsN s st.1 k n ([], (drawP st.2 4).2) j).2))] ∧ ∃ o3 o4, ρ = ev (some (.str [k])) (some (.ref rw_)) o3 o4) ⟨rfl, _, _, rfl⟩ ?_ ?_
    · rintro j x ρ M hx ⟨rfl, o3, o4, rfl⟩
      obtain ⟨j', e3, e4, rfl⟩ := map_get hx
      rw [List.length_range] at e4
      obtain ⟨hF, hP⟩ := turns_ok (door := k) (st := ([], (drawP st.2 4).2)) hTb h0 (FitR.nil s st.1 k n) o4' j
      have hP : PenOk 960000 (turnsN s st.1 k n ([], (drawP st.2 4).2) j).2 := hP.mono (by omega)
      show ∃ ρ', _ ∧ PSsn _ _ ρ' _ { nx := fun ρ M => M = [(rw_, .dK (prsK (turnStep s st.1 k n (turnsN s st.1 k n ([], (drawP st.2 4).2) j)).1)), (z, .dK (tabK st.1)), (q, .dK (penK (turnStep s st.1 k n (turnsN s st.1 k n ([], (drawP st.2 4).2) j)).2))] ∧ _, rt := _, bk := _, ct := _ }
      generalize turnsN s st.1 k n ([], (drawP st.2 4).2) j = T at *
      have c1 := draw_bd T.2 (span := n) (by omega)
      have u1 := draw_ok hP n
      have c2 := draw_bd (drawP T.2 n).2 (span := n) (by omega)
      have u2 := draw_ok u1 n
      have t1 : (D.int (drawP T.2 n).1) = nD (drawP T.2 n).1.toNat := congrArg D.int (by omega)
      have t2 : (D.int (drawP (drawP T.2 n).2 n).1) = nD (drawP (drawP T.2 n).2 n).1.toNat := congrArg D.int (by omega)
      dsimp only [ev]
      refine ⟨_, ⟨_, by wtm_at "put_", rfl⟩, ?_⟩
      refine ss_set (d := oPrs (fitP s st.1 k n (drawP T.2 n).1 (drawP (drawP T.2 n).2 n).1)) (M1 := [(rw_, .dK (prsK T.1)), (z, .dK (tabK st.1)), (q, .dK (penK (drawP (drawP T.2 n).2 n).2))]) (by wtm_at "put_") (pv_callO f_fit (s, st.1, k, n, (drawP T.2 n).1.toNat, (drawP (drawP T.2 n).2 n).1.toNat) ⟨hTb, hkeys, by dsimp only; omega, by dsimp only; omega, by dsimp only; omega⟩ (pas_cons (by wtm_at "ev") (pas_cons (by wtm_at "ev") (pas_cons (by wtm_at "ev") (pas_cons (M1 := [(rw_, .dK (prsK T.1)), (z, .dK (tabK st.1)), (q, .dK (penK (drawP T.2 n).2))]) (pv_eq (pv_callO f_draw (T.2, (n : Int)) ⟨by dsimp only; omega, by dsimp only; omega, hP.mono (by omega)⟩ (by wtm_at "args") (MCut.there (MCut.there MCut.here)) (MCut.there (MCut.there MCut.here))) t1) (pas1 (pv_eq (pv_callO f_draw ((drawP T.2 n).2, (n : Int)) ⟨by dsimp only; omega, by dsimp only; omega, u1.mono (by omega)⟩ (by wtm_at "args") (MCut.there (MCut.there MCut.here)) (MCut.there (MCut.there MCut.here))) t2)))))) (MCut.there MCut.here) (MCut.there MCut.here)) ?_
      unfold turnStep
      dsimp only
      generalize hfp : fitP s st.1 k n (drawP T.2 n).1 (drawP (drawP T.2 n).2 n).1 = fp
      generalize (drawP (drawP T.2 n).2 n).2 = pen2 at *
      cases fp with
      | none =>
        unfold oPrs
        refine ss_if (M1 := [(rw_, .dK (prsK T.1)), (z, .dK (tabK st.1)), (q, .dK (penK pen2))]) (pb_w (pw_and' (k := false) (j := false) (pb_cmp (by wtm_at "ev") (by wtm_at "ev") (o_notN (k := false) (by simp))) fun h => by cases h)) (fun h => by cases h) (fun _ => ss_nil (ss_nil ⟨rfl, _, _, rfl⟩))
      | some ps =>
        unfold oPrs
        have hfr := fitP_ok hTb c1 c2 hfp
        have hpl := keys_len hfr.nd fun kv q => (hfr.lt kv q).1
        have hrl := keys_len hF.nd fun kv q => (hF.lt kv q).1
        have hzz : (ps.map (·.1)).length ≤ sizeLine := sz_line (by rw [List.length_map]; omega)
        have hfl : Fls 0 (((ps.map (·.1)).filter fun x => decide (x ∈ T.1.map (·.1))).map nD) := by
          rw [fls_iff]
          intro x hx
          obtain ⟨a, _, rfl⟩ := List.mem_map.mp hx
          unfold Fl; trivial
        refine ss_if (M1 := [(rw_, .dK (prsK T.1)), (z, .dK (tabK st.1)), (q, .dK (penK pen2))]) (pb_w (pw_and' (k := true) (j := decide ((ps.map (·.1)).filter (fun x => decide (x ∈ T.1.map (·.1))) = [])) (pb_cmp (by wtm_at "ev") (by wtm_at "ev") (o_notN (k := true) (by simp))) fun _ => pw_a1 (pb_cmp (x := .lst (((ps.map (·.1)).filter fun x => decide (x ∈ T.1.map (·.1))).map nD)) (pv_lc (lc_nm (l := ps.map (·.1)) (inj := nD) (t := fun x => decide (x ∈ T.1.map (·.1))) (g := nD) (by wtm_at "pin") (by rw [List.map_map, List.map_map]; rfl) (by wtm_at "nix") (by wtm_at "wipe_") (by wtm_at "put_") (by dsimp only; decide +kernel) hzz (fun x hx => ⟨PIf.one (pb_eq (pb_in (by wtm_at "ev") (by wtm_at "ev") (in_d (kI _) (dctM_at (by wtm_at "mat_")))) has_prs), fun _ => by wtm_at "ev"⟩))) (by wtm_at "ev") (o_eqP (n := 1) (m := 1) (pdat (n := 1) (by unfold Fl; exact hfl)) (pdat (n := 1) (x := .lst []) (by unfold Fl Fls; trivial)) (by unfold Fl; exact hfl) (by unfold Fl Fls; trivial) (by simp))))) (fun h => ?_) (fun h => ss_nil (ss_nil ⟨?_, _, _, rfl⟩))
        · have h : (ps.map (·.1)).filter (fun x => decide (x ∈ T.1.map (·.1))) = [] := by
            rw [Bool.true_and] at h; exact of_decide_eq_true h
          refine ss_expr (pv_update (M2 := [(rw_, .dK (prsK T.1)), (z, .dK (tabK st.1)), (q, .dK (penK pen2))]) (more := prsK ps) (by wtm_at "ev") (by wtm_at "mat_") (by wtm_at "ev") (by wtm_at "mat_") (by wtm_at "mput_") (sz_line (by rw [List.length_map, List.length_map]; omega))) ?_
          refine ss_nil (ss_nil ⟨?_, _, _, rfl⟩)
          dsimp only
          rw [if_pos h, mrg_prs]
        · have h : ¬ (ps.map (·.1)).filter (fun x => decide (x ∈ T.1.map (·.1))) = [] := by
            rw [Bool.true_and] at h; exact of_decide_eq_false h
          dsimp only
          rw [if_neg h]
    · rintro ρ M ⟨rfl, o3, o4, rfl⟩
      rw [List.length_map, List.length_range]
      generalize turnsN s st.1 k n ([], (drawP st.2 4).2) (cntN n (drawP st.2 4).1).toNat = T at *
      dsimp only [ev]
      have hmz : (List.range ((n : Int)).toNat).length ≤ sizeLine := sz_line (by simp; omega)
      have hget : ∀ (cc : Cfg) (ρ : Dl.Env) (e : Expr) (ea eb : Expr) (apos cpos : Pos) (x y : Nat) (M : Mem), MAt M rw_ (.dK (prsK T.1)) → PV cc e ρ M (.ref rw_) M → PV cc ea ρ M (nD x) M → PV cc eb ρ M (nD y) M → (∀ env : PySem.Env, attributeBase e "get" env (eval e env) = eval e env) → (∀ env : PySem.Env, ((backTo cpos (starEach [ea, eb] env)).all (fun x => !x.1) && (backToKw cpos (keywordEach [] env)).all (fun x => x.1.isSome) && decide (([ea, eb] : List Expr).length + ([] : List Keyword).length + (if ([] : List Keyword).isEmpty then 0 else 1) < 30)) = true) → (apos.endLine == cpos.line) = true → (∀ env : PySem.Env, backTo cpos (starEach [ea, eb] env) = [(false, eval ea env), (false, eval eb env)]) → PV cc (.Call (.Attribute e "get" apos) [ea, eb] [] cpos) ρ M (.int ((look T.1 x).getD y : Nat)) M := fun cc ρ e ea eb apos cpos x y M hm he ha hb h1 h2 h3 h4 =>
        pv_eq (pv_dget2 he ⟨_, dctM_at hm⟩ ha (kI _) hb (dctM_at hm) rfl h1 h2 h3 h4) (by rw [look_prs]; cases look T.1 x <;> rfl)
      have htl : (tabK st.1).length < sizeLine := sz_lt (by rw [List.length_map]; have := hTb.few; omega)
      refine ss_dput (d := rowL (rowOf T.1 n)) (M1 := [(rw_, .dK (prsK T.1)), (z, .dK (tabK st.1)), (q, .dK (penK T.2))]) (pv_eq (pv_lc (lc_nm (l := List.range ((n : Int)).toNat) (inj := fun i => .int (i : Nat)) (t := fun _ => true) (g := fun i => .int ((look T.1 i).getD i : Nat)) (by wtm_at "pin") rfl (by wtm_at "nix") (by wtm_at "wipe_") (by wtm_at "put_") (by dsimp only; decide +kernel) hmz (fun x hx => ⟨PIf.nil, fun _ => hget _ _ _ _ _ _ _ x x _ (by wtm_at "mat_") (by wtm_at "ev") (by wtm_at "ev") (by wtm_at "ev") (by intro _; rfl) (by intro _; rfl) (by rfl) (by intro _; rfl)⟩))) (by rw [flt_all, Int.toNat_natCast]; unfold rowOf; rw [rowL, List.map_map]; rfl)) (by wtm_at "ev") (by wtm_at "ev") (by wtm_at "key_") (by wtm_at "mat_") (by wtm_at "mput_") htl ?_
      rw [put_tab hkn]
      exact ss_drop (by wtm_at "mcut_") (ss_nil ⟨rfl, _, _, _, _, rfl⟩)
  · rintro ρ M ⟨rfl, o1, o2, o3, o4, rfl⟩
    rw [List.length_map, List.take_length, show s.kinds.foldl (doorP s n) ([], pen) = doorsP pen s n from rfl]
    exact ss_ret (pv_frzD (by wtm_at "ev") (by wtm_at "mcut_")) ⟨rfl, rfl⟩
end

theorem ss_tup2 {c : Cfg} {n1 n2 : Str} {i j k1 : Nat} {q1 q2 q4 q5 pos : Pos} {x2} {es : List Expr} {sts : List Stmt} {ρ : Dl.Env} {M : Mem} {P : Post} (h1 : c.N[i]? = some n1) (h2 : c.N[j]? = some n2) (hd : c.N.Nodup)
    (h : PNs c es ρ M fun ds N => ∃ x y f1 f2, ds = [x, y] ∧ Put ρ n1 f1 ∧ Put (f1 (some x)) n2 f2 ∧ PSsn c sts (f2 (some y)) N P)
    (l1 : LocC c n1 := by first | exact Or.inl rfl | exact Or.inr ⟨rfl, rfl⟩) (l2 : LocC c n2 := by first | exact Or.inl rfl | exact Or.inr ⟨rfl, rfl⟩)
    (hst : es.all notStar = true := by rfl)
    (hw : ∀ env : PySem.Env, env.scope = c.sc → swappedStores [.Tuple [.Name n1 q1, .Name n2 q2] k1 q4] (.Tuple es x2 q5) env = pure none := by intro env he; unfold swappedStores Env.blockKind Env.kindOf; simp only [he]; rfl)
    (hs : ∀ env : PySem.Env, swapsWithSole [.Tuple [.Name n1 q1, .Name n2 q2] k1 q4] (.Tuple es x2 q5) pos.line env = pure false := by intro _; rfl) : PSsn c (.Assign [.Tuple [.Name n1 q1, .Name n2 q2] k1 q4] (.Tuple es x2 q5) pos :: sts) ρ M P := by
  refine ss_tupT (pgsn_cons (pgn_name h1 hd l1) (pgsn_cons (pgn_name h2 hd l2) pgsn_nil)) ?_ hst (by intro _; rfl) (by intro _; rfl) hw hs
  have key : ∀ (es : List Expr) (M : Mem) (R R' : List D → Mem → Prop), (∀ ds N, R ds N → R' ds N) → PNs c es ρ M R → PNs c es ρ M R' := by
    intro es
    induction es with
    | nil => intro M R R' hr h; exact hr _ _ h
    | cons e es ih => intro M R R' hr h; exact pn_imp h fun d N q => ih N _ _ (fun ds N' z => hr _ _ z) q
  refine key _ _ _ _ (fun ds N hq => ?_) h
  obtain ⟨x, y, f1, f2, rfl, p1, p2, q⟩ := hq
  exact ⟨rfl, sz_line (by simp), _, ⟨x, [y], _, rfl, ⟨f1, p1, rfl⟩, y, [], _, rfl, ⟨f2, p2, rfl⟩, rfl, rfl⟩, q⟩
instance : FlatD nD where
  g n := .int (n : Int)
  rep K F a v := rep_int
  flat a := rfl
  eq a b := by
    have := FlatD.eq (f := D.int) (a : Int) (b : Int)
    have e : decide ((a : Int) = (b : Int)) = decide (a = b) := decide_eq_decide.mpr Int.ofNat_inj
    rw [← e]; exact this
theorem tabs_look {ts : Tbs} (hn : (ts.map (·.1)).Nodup) : (ts.map (·.1)).map (fun k => (look ts k).getD []) = ts.map (·.2) := by
  rw [List.map_map]
  refine List.map_congr_left fun kr h => ?_
  show (look ts kr.1).getD [] = kr.2
  rw [look_nd hn h]; rfl
section
variable {P : Program} {w : World} {K : PySem.W.Frag} {mg : Str → Option Value} {base : Heap} [Txt K mg]
abbrev rLists (K : PySem.W.Frag) : DRel := RelF (fun a : Scn × Tbs => [sceneD K a.1, .dct (tabK a.2)]) (fun a => a.2.map (·.1) = a.1.kinds ∧ a.1.kinds.Nodup ∧ a.1.kinds.length ≤ 8) fun a => .lst ((a.2.map (·.2)).map rowL)
theorem f_lists : FnS P w K mg base "_law_lists" 1 [] (rLists K) := by
  refine mk_l_lists (relF_len fun _ => rfl) (relF_body ?_)
  rintro ⟨s, ts⟩ ⟨hk, hn, h8⟩
  dsimp only [start0, N_l_lists] at *
  wtm_at "bd"
  have k1 := lk_kinds (K := K) s
  have hn' : (ts.map (·.1)).Nodup := by rw [hk]; exact hn
  refine ss_ret (M1 := []) (pv_lc (lc_nm (l := s.kinds) (inj := fun k => .str [k]) (t := fun _ => true) (g := fun k => rowL ((look ts k).getD [])) (pin_of (pv_sub (by wtm_at "ev") (by wtm_at "ev") (ix_D (j := Sum.inr _) rfl k1)) px_str) rfl (by wtm_at "nix") (by wtm_at "wipe_") (by wtm_at "put_") (by dsimp only; decide +kernel) (sz_line (by omega)) (fun k hk' => ⟨PIf.nil, fun _ => pv_b1 (pv_sub (x := .dct (tabK ts)) (y := .str [k]) (M1 := []) (M2 := []) (by wtm_at "ev") (by wtm_at "ev") (ix_D (j := Sum.inr [k]) rfl (by
    obtain ⟨kr, h1, h2⟩ := List.mem_map.mp (show k ∈ ts.map (·.1) by rw [hk]; exact hk')
    subst h2
    rw [look_tab, look_nd hn' h1]; rfl))) (b_listL (by wtm_at "gf"))⟩))) ?_
  refine ⟨?_, rfl⟩
  rw [flt_all, ← tabs_look hn', hk, List.map_map]; rfl
abbrev rLNum (K : PySem.W.Frag) : DRel := RelF (fun a : Scn × Tbs × Nat => [sceneD K a.1, .dct (tabK a.2.1), .int 0]) (fun a => a.2.1.map (·.1) = a.1.kinds ∧ a.1.kinds.Nodup ∧ a.1.kinds.length ≤ 8 ∧ TbsOk a.2.1 a.2.2 ∧ 0 < a.2.2 ∧ a.2.2 ≤ 40) fun a => .tup [rowL (placesN (a.2.1.map (·.2)) a.2.2 0), .tup ((numR (a.2.1.map (·.2)) (placesN (a.2.1.map (·.2)) a.2.2 0)).map rowT)]
theorem f_lnumbered : FnS P w K mg base "_law_numbered" 1 [] (rLNum K) := by
  refine mk_l_numbered (relF_len fun _ => rfl) (relF_body ?_)
  rintro ⟨s, ts, n⟩ ⟨hk, hn, h8, hT, h0, h40⟩
  dsimp only [start0, N_l_numbered] at *
  wtm_at "bd"
  have k1 := lk_kinds (K := K) s
  have hn' : (ts.map (·.1)).Nodup := by rw [hk]; exact hn
  have hrr : ∀ r ∈ ts.map (·.2), ∀ c, c < n → r.getD c 0 < n := fun r hr c hc => by
    obtain ⟨kr, h1, rfl⟩ := List.mem_map.mp hr
    exact ((hT.row kr h1).2 c hc).1
  have hb : BInv (ts.map (·.2)) n 0 [0] := ⟨by simp, fun x hx => by rw [List.mem_singleton.mp hx]; exact h0, by simp, fun j hj => absurd hj (Nat.not_lt_zero _)⟩
  refine ss_tup2 (by wtm_at "nix") (by wtm_at "nix") (by dsimp only; decide +kernel) (pns_n (pn_lst (by wtm_at "args") (sz_line (by simp))) ?_)
  rintro _ _ ⟨z, rfl, rfl⟩
  refine pns_v (by wtm_at "ev") ?_
  refine ⟨_, _, _, _, rfl, by wtm_at "put_", by wtm_at "put_", ?_⟩
  have hlk : ∀ {k : Nat} {r : List Nat}, (k, r) ∈ ts → look (tabK ts) (Sum.inr [k]) = some (rowL r) := fun h => by rw [look_tab, look_nd hn' h]; rfl
  let ev : D → Option D → Option D → Option D → Dl.Env := fun fo at_ o1 o2 => [("_law_scene_here", some (sceneD K s)), ("_law_tables", some (.dct (tabK ts))), ("_law_first", some (.int 0)), ("_law_found", some fo), ("_law_at", at_), ("_law_door", o1), ("_law_rows", o2), ("_law_place", none)]
  refine ss_while (fun m ρ M => ∃ i f, m = n + 1 - i ∧ BInv (ts.map (·.2)) n i f ∧ bfs (ts.map (·.2)) (n + 1 - i) i f = placesN (ts.map (·.2)) n 0 ∧ M = [(z, .lst (f.map nD))] ∧ ∃ o1, ρ = ev (.ref z) (some (nD i)) o1 none) (n := n + 1) ⟨0, [0], rfl, hb, rfl, rfl, none, rfl⟩ ?_
  rintro m ρ M ⟨i, f, rfl, hB, hf, rfl, o1, rfl⟩
  dsimp only [ev]
  refine ⟨_, _, by wtm_at "evb", fun hq => ?_, fun hq => ?_⟩
  · rw [List.length_map] at hq
    have hi : i < f.length := by simpa using hq
    have hfn := hB.len
    have hm := getD_memD hi
    have hmn := hB.lt _ hm
    have hin : n + 1 - i = (n - i) + 1 := by omega
    refine ss_for (pin_of (pv_sub (by wtm_at "ev") (by wtm_at "ev") (ix_D (j := Sum.inr _) rfl k1)) px_str) (by wtm_at "tgn") (fun j ρ M => M = [(z, .lst ((((ts.map (·.2)).take j).foldl (addN (f.getD i 0)) f).map nD))] ∧ ∃ o1, ρ = ev (.ref z) (some (nD i)) o1 none) ⟨rfl, _, rfl⟩ ?_ ?_
    · rintro j x ρ M hx ⟨rfl, o1, rfl⟩
      obtain ⟨k, e1, e2, rfl⟩ := map_get hx
      rw [← hk, List.getElem?_map] at e1
      obtain ⟨⟨k', r⟩, e3, e4⟩ := Option.map_eq_some_iff.mp e1
      have e4 : k' = k := e4
      subst e4
      have hkr := List.mem_of_getElem? e3
      obtain ⟨rl, rn⟩ := hT.row _ hkr
      dsimp only at rl rn
      have hpre := foldN_pre (f.getD i 0) ((ts.map (·.2)).take j) f
      have hg0 := getD_pre hpre hi
      have hgl := hpre.length_le
      have hnd := foldN_nodup (f.getD i 0) (rows := (ts.map (·.2)).take j) hB.nd
      have hlt : ∀ x ∈ ((ts.map (·.2)).take j).foldl (addN (f.getD i 0)) f, x < n := fun x hx => by
        rcases foldN_mem _ hx with q | ⟨r', q1, rfl⟩
        · exact hB.lt x q
        · exact hrr r' (List.mem_of_mem_take q1) _ hmn
      have hgn : (((ts.map (·.2)).take j).foldl (addN (f.getD i 0)) f).length ≤ n := by
        have := len_sub (l' := List.range n) hnd fun a ha => List.mem_range.mpr (hlt a ha)
        rwa [List.length_range] at this
      have hstep : ((ts.map (·.2)).take (j + 1)).foldl (addN (f.getD i 0)) f = addN (f.getD i 0) (((ts.map (·.2)).take j).foldl (addN (f.getD i 0)) f) r := by
        rw [List.take_add_one, List.getElem?_map, e3, List.foldl_append]; rfl
      rw [hstep]
      generalize ((ts.map (·.2)).take j).foldl (addN (f.getD i 0)) f = g at *
      have hig : i < g.length := by omega
      have hgr : g.getD i 0 < r.length := by rw [hg0, rl]; exact hmn
      dsimp only [ev]
      refine ⟨_, ⟨_, by wtm_at "put_", rfl⟩, ?_⟩
      have hval : ∀ (cc : Cfg) (ρ : Dl.Env) (a b d e : Expr) (p1 p2 p3 : Pos), PV cc a ρ [(z, .lst (g.map nD))] (.dct (tabK ts)) [(z, .lst (g.map nD))] → PV cc b ρ [(z, .lst (g.map nD))] (.str [k']) [(z, .lst (g.map nD))] → NoSl b → PV cc d ρ [(z, .lst (g.map nD))] (.ref z) [(z, .lst (g.map nD))] → PV cc e ρ [(z, .lst (g.map nD))] (nD i) [(z, .lst (g.map nD))] → PlX e → PlX (.Subscript d e p2) → PV cc (.Subscript (.Subscript a b p1) (.Subscript d e p2) p3) ρ [(z, .lst (g.map nD))] (nD (r.getD (g.getD i 0) 0)) [(z, .lst (g.map nD))] := fun cc ρ a b d e p1 p2 p3 h1 h2 h3 h4 h5 h6 h7 =>
        pv_sub (pv_sub h1 h2 (ix_D (j := Sum.inr [k']) rfl (hlk hkr) h3)) (pv_sub h4 h5 (ix_nM MAt.here hig h6)) (ix_nL hgr h7)
      refine ss_if (M1 := [(z, .lst (g.map nD))]) (k := !decide (r.getD (g.getD i 0) 0 ∈ g)) (pb_nin (hval _ _ _ _ _ _ _ _ _ (by wtm_at "ev") (by wtm_at "ev") (fun _ _ => rfl) (by wtm_at "ev") (by wtm_at "ev") (fun _ _ => rfl) (fun _ _ => rfl)) (by wtm_at "ev") (nin_op (o_ninF (f := nD) (sq_M MAt.here)))) (fun h => ?_) fun h => ?_
      · have hy : r.getD (g.getD i 0) 0 ∉ g := by simpa using h
        refine ss_expr (pv_append (M2 := [(z, .lst (g.map nD))]) (by wtm_at "ev") (by wtm_at "mat_") (hval _ _ _ _ _ _ _ _ _ (by wtm_at "ev") (by wtm_at "ev") (fun _ _ => rfl) (by wtm_at "ev") (by wtm_at "ev") (fun _ _ => rfl) (fun _ _ => rfl)) (by wtm_at "mat_") (by wtm_at "mput_") (sz_lt (by rw [List.length_map]; omega))) ?_
        refine ss_nil (ss_nil ⟨?_, _, rfl⟩)
        unfold addN
        rw [← hg0, if_neg hy]
        simp
      · have hy : r.getD (g.getD i 0) 0 ∈ g := by simpa using h
        refine ss_nil (ss_nil ⟨?_, _, rfl⟩)
        unfold addN
        rw [← hg0, if_pos hy]
    · rintro ρ M ⟨rfl, o1, rfl⟩
      have htk : (ts.map (·.2)).take s.kinds.length = ts.map (·.2) := by
        rw [← hk, List.length_map]
        exact List.take_of_length_le (by simp)
      rw [List.length_map, htk]
      refine ss_augI (by wtm_at "at_") (by wtm_at "put_") (by wtm_at "ev") (ss_nil ⟨n + 1 - (i + 1), by omega, i + 1, visit (ts.map (·.2)) f i, rfl, hB.step hi hrr, ?_, rfl, _, rfl⟩)
      rw [← hf, hin, show n + 1 - (i + 1) = n - i by omega]
      exact (if_pos hi).symm
  · rw [List.length_map] at hq
    have hi : ¬ i < f.length := by simpa using hq
    have e : placesN (ts.map (·.2)) n 0 = f := by
      rw [← hf]
      cases h : n + 1 - i with
      | zero => rfl
      | succ m => exact if_neg hi
    have hcl := bfs_inv hrr (m := n + 1) (by omega) hb
    rw [show bfs (ts.map (·.2)) (n + 1) 0 [0] = placesN (ts.map (·.2)) n 0 from rfl, e] at hcl
    rw [e]
    clear hf hB e
    refine ss_frzL (nm := "_law_found") (by wtm_at "mcut_") (by wtm_at "at_") (by wtm_at "put_") (by dsimp only [List.map]; decide +kernel) ?_
    have hfn := hcl.len
    have hcl2 : ∀ x ∈ f, ∀ r ∈ ts.map (·.2), r.getD x 0 ∈ f := fun x hx r hr => by
      have := hcl.cl (f.idxOf x) (List.idxOf_lt_length_iff.mpr hx) r hr
      rwa [idx_getD hx] at this
    have hfz : f.length ≤ sizeLine := sz_line (by omega)
    refine ss_setN (by wtm_at "put_") (pn_imp (pn_lst pas_nil) ?_)
    rintro _ _ ⟨y, rfl, rfl⟩
    refine ss_for (pin_of (pv_sub (by wtm_at "ev") (by wtm_at "ev") (ix_D (j := Sum.inr _) rfl k1)) px_str) (by wtm_at "tgn") (fun j ρ M => M = [(y, .lst ((((ts.map (·.2)).take j).map fun r => f.map fun c => f.idxOf (r.getD c 0)).map rowT))] ∧ ∃ o1 o2, ρ = ev (rowL f) (some (nD i)) o1 o2 ∧ o2 = some (.ref y)) ⟨rfl, _, _, rfl, rfl⟩ ?_ ?_
    · rintro j x ρ M hx ⟨rfl, o1, o2, rfl, rfl⟩
      obtain ⟨k, e1, e2, rfl⟩ := map_get hx
      rw [← hk, List.getElem?_map] at e1
      obtain ⟨⟨k', r⟩, e3, e4⟩ := Option.map_eq_some_iff.mp e1
      have e4 : k' = k := e4
      subst e4
      have hkr := List.mem_of_getElem? e3
      obtain ⟨rl, rn⟩ := hT.row _ hkr
      dsimp only at rl rn
      have hrm : r ∈ ts.map (·.2) := List.mem_map_of_mem (f := (·.2)) hkr
      have etk : (ts.map (·.2)).take (j + 1) = (ts.map (·.2)).take j ++ [r] := by
        rw [List.take_add_one, List.getElem?_map, e3]; rfl
      have hjn : ((((ts.map (·.2)).take j).map fun r => f.map fun c => f.idxOf (r.getD c 0)).map rowT).length < sizeLine := sz_lt (by
        rw [List.length_map, List.length_map, List.length_take, List.length_map]
        have := hT.few
        omega)
      dsimp only [ev]
      refine ⟨_, ⟨_, by wtm_at "put_", rfl⟩, ?_⟩
      refine ss_expr (pv_append (d := rowT (f.map fun c => f.idxOf (r.getD c 0))) (M2 := [(y, .lst ((((ts.map (·.2)).take j).map fun r => f.map fun c => f.idxOf (r.getD c 0)).map rowT))]) (by wtm_at "ev") (by wtm_at "mat_") (pv_eq (pv_b1 (pv_lc (lc_nm (l := f) (inj := nD) (t := fun _ => true) (g := fun c => nD (f.idxOf (r.getD c 0))) (by wtm_at "pin") rfl (by wtm_at "nix") (by wtm_at "wipe_") (by wtm_at "put_") (by dsimp only; decide +kernel) hfz (fun c hc => ⟨PIf.nil, fun _ => ?_⟩))) (b_tupL (by wtm_at "gf"))) (by rw [flt_all, rowT, List.map_map]; rfl)) (by wtm_at "mat_") (by wtm_at "mput_") hjn) ?_
      · have hin := hcl2 c hc r hrm
        have hil := List.idxOf_lt_length_iff.mpr hin
        have hgi := idx_getD hin
        have hcr : c < r.length := by rw [rl]; exact hcl.lt c hc
        have hval2 : ∀ (cc : Cfg) (ρ : Dl.Env) (M : Mem) (a b e : Expr) (p1 p3 : Pos), PV cc a ρ M (.dct (tabK ts)) M → PV cc b ρ M (.str [k']) M → NoSl b → PV cc e ρ M (nD c) M → PlX e → PV cc (.Subscript (.Subscript a b p1) e p3) ρ M (nD (r.getD c 0)) M := fun cc ρ M a b e p1 p3 h1 h2 h3 h4 h5 =>
          pv_sub (pv_sub h1 h2 (ix_D (j := Sum.inr [k']) rfl (hlk hkr) h3)) h4 (ix_nL hcr h5)
        refine pv_index (f := nD) (l := f) (k := r.getD c 0) (i := f.idxOf (r.getD c 0)) (by wtm_at "ev") ⟨_, sql_lst⟩ (hval2 _ _ _ _ _ _ _ _ (by wtm_at "ev") (by wtm_at "ev") (fun _ _ => rfl) (by wtm_at "ev") (fun _ _ => rfl)) sql_lst ?_ ?_
        · rw [List.getElem?_eq_getElem hil, List.getElem_idxOf hil]
        · intro m hm hq
          have hml := (List.getElem?_eq_some_iff.mp hq).1
          have := getD_idx hcl.nd hml
          rw [List.getD_eq_getElem?_getD, hq, Option.getD_some] at this
          omega
      · refine ss_nil ⟨?_, _, _, rfl, rfl⟩
        rw [etk, List.map_append, List.map_append]; rfl
    · rintro ρ M ⟨rfl, o1, o2, rfl, rfl⟩
      have htk : (ts.map (·.2)).take s.kinds.length = ts.map (·.2) := by
        rw [← hk, List.length_map]
        exact List.take_of_length_le (by simp)
      rw [List.length_map, htk, show ((ts.map (·.2)).map fun r => f.map fun c => f.idxOf (r.getD c 0)) = numR (ts.map (·.2)) f from rfl]
      dsimp only [ev]
      refine ss_ret (M1 := []) (pv_tup (pas_cons (by wtm_at "ev") (pas1 (pv_b1 (pv_frzL (by wtm_at "ev") (by wtm_at "mcut_")) (b_tupL (by wtm_at "gf"))))) (sz_line (by simp))) ⟨rfl, rfl⟩
end

theorem pv_lenK {c : Cfg} {e : Expr} {ρ : Dl.Env} {M M1 : Mem} {kvs : List (DK × D)} {p : Addr} {p2 pos : Pos} (h : PV c e ρ M (.ref p) M1) (hm : MAt M1 p (.dK kvs)) (hf : BltF c.K c.mg "len") (hg : GlC c "len" := by rfl) (hs : Pl1 e := by intro _; rfl) : PV c (.Call (.Name "len" p2) [e] [] pos) ρ M (.int kvs.length) M1 :=
  pv_blt (r := fun xs H Q => ∃ a kvs, xs = [L2.V.ref a] ∧ H a = some (.dK kvs) ∧ Q (.int kvs.length) H) (pas1 h hs) hf (fun X _ => L2.call_lenD) boot_len (fun F H vs S r Q q => by
    obtain ⟨v, rfl, r1⟩ := reps1 r
    have ep := rep_ref.mp r1
    subst ep
    obtain ⟨_, u, hu, ws, e, r2⟩ := hm.get S.ok
    subst e
    refine ⟨p, ws, rfl, hu, ?_⟩
    rw [RepK.len r2]; exact q F H _ S Go.refl (rep_int.mpr rfl)) hg (by decide) (by decide) hs
section
variable {P : Program} {w : World} {K : PySem.W.Frag} {mg : Str → Option Value} {base : Heap} [Txt K mg]
abbrev rLFirst (K : PySem.W.Frag) : DRel := RelF (fun a : Scn × List (List Nat) × Nat => [sceneD K a.1, .tup (a.2.1.map rowT)]) (fun a => a.1.kinds = a.1.pl.kinds ∧ a.1.pl.Ok ∧ Canon a.1.pl a.2.1 a.2.2 ∧ a.2.2 ≤ 40 ∧ a.1.kinds.length ≤ 8) fun a => .dct (fwD (fwN a.1.pl a.2.1 a.2.2))
theorem f_lfirst : FnS P w K mg base "_law_first_ways" 1 [] (rLFirst K) := by
  refine mk_l_first_ways (relF_len fun _ => rfl) (relF_body ?_)
  rintro ⟨s, rows, m⟩ ⟨hk, hp, hC, hm, h8⟩
  dsimp only [start0, N_l_first_ways] at *
  wtm_at "bd"
  have k1 := lk_kinds (K := K) s
  have hn : s.pl.kinds.Nodup := hp.asc.imp Nat.ne_of_lt
  have hl := hC.tab.len
  refine ss_par2 (by wtm_at "put_") (pns_n (pn_disp fun _ => by wtm_at "disp") ?_) ⟨_, by wtm_at "put_"⟩
  rintro _ _ ⟨q, rfl, rfl⟩
  refine pns_v (by wtm_at "ev") ?_
  refine ⟨_, _, _, rfl, by wtm_at "put_", ?_⟩
  let ev : D → Option D → Dl.Env := fun at_ o1 => [("_law_scene_here", some (sceneD K s)), ("_law_rows", some (.tup (rows.map rowT))), ("_law_found", some (.ref q)), ("_law_at", some at_), ("_law_k", o1)]
  have hlen : ∀ c, c ≤ m → (fwN s.pl rows c).length = (vis rows c).length := fun c hc => by rw [← (fwN_ok hp hC c hc).2, List.length_map]
  refine ss_while (fun r ρ M => ∃ c, r = m - c ∧ c ≤ m ∧ M = [(q, .dK (fwD (fwN s.pl rows c)))] ∧ ∃ o1, ρ = ev (nD c) o1) (n := m) ⟨0, rfl, Nat.zero_le _, rfl, none, rfl⟩ ?_
  rintro r ρ M ⟨c, rfl, hcm, rfl, o1, rfl⟩
  dsimp only [ev]
  have hc0 := hlen c hcm
  refine ⟨_, _, pb_cmp (by wtm_at "ev") (pv_lenK (by wtm_at "ev") (by wtm_at "mat_") (by wtm_at "gf")) o_lt, fun hq => ?_, fun hq => ?_⟩
  · rw [List.length_map, hc0] at hq
    have hq' : c < (vis rows c).length := by simpa using hq
    have hpre := hC.pre hcm
    have h2 : c < m := by
      have := hpre.length_le
      rw [List.length_range] at this; omega
    obtain ⟨a1, a2⟩ := fwN_ok hp hC c hcm
    have hcmem : c ∈ (fwN s.pl rows c).map (·.1) := by
      have z := getD_memD hq'
      rw [pre_range hpre hq'] at z
      rw [a2]; exact z
    obtain ⟨w0, hw⟩ := Option.isSome_iff_exists.mp (lookN_some.mpr hcmem)
    have hwl := a1.len _ (lookN_mem hw)
    dsimp only at hwl
    have a1' : FwOk s.pl rows (c + 1) (fwN s.pl rows c) := ⟨fun kv z => Nat.le_succ_of_le (a1.len kv z), a1.ins, a1.wlk⟩
    have hr8 : rows.length ≤ 8 := by rw [hl, ← hk]; exact h8
    refine ss_for (pin_range (pv_lenT (xs := rows.map rowT) (M1 := [(q, .dK (fwD (fwN s.pl rows c)))]) (by wtm_at "ev") (by wtm_at "gf")) (by wtm_at "gf") (by rw [List.length_map]; omega) (by rw [List.length_map]; omega)) (by wtm_at "tgn") (fun j ρ M => M = [(q, .dK (fwD (((s.pl.kinds.zip rows).take j).foldl (fwRow c) (fwN s.pl rows c))))] ∧ ∃ o1, ρ = ev (nD c) o1) ⟨rfl, _, rfl⟩ ?_ ?_
    · rintro j x ρ M hx ⟨rfl, o1, rfl⟩
      try dsimp only at hx
      obtain ⟨t, e1, e2, rfl⟩ := map_get hx
      rw [List.length_range, Int.toNat_natCast, List.length_map] at e2
      have et : t = j := by
        rw [Int.toNat_natCast, List.length_map, List.getElem?_range e2] at e1; exact (Option.some.inj e1).symm
      subst et
      have hkl : t < s.pl.kinds.length := by rw [← hl]; exact e2
      have h3 : s.pl.kinds[t]? = some (s.pl.kinds.getD t 0) := by rw [List.getElem?_eq_getElem hkl, List.getD_eq_getElem?_getD, List.getElem?_eq_getElem hkl]; rfl
      have h4 : rows[t]? = some (rows.getD t []) := by rw [List.getElem?_eq_getElem e2, List.getD_eq_getElem?_getD, List.getElem?_eq_getElem e2]; rfl
      generalize hkk : s.pl.kinds.getD t 0 = k at *
      generalize hrr : rows.getD t [] = r at *
      have hz : (s.pl.kinds.zip rows)[t]? = some (k, r) := List.getElem?_zip_eq_some.mpr ⟨h3, h4⟩
      obtain ⟨b1, b2, b3⟩ := fwStep_ok (m := c) (c := c) hn hl (krs := (s.pl.kinds.zip rows).take t) (fun _ h => List.mem_of_mem_take h) a1' ⟨w0, hw, hwl⟩
      have hstep : ((s.pl.kinds.zip rows).take (t + 1)).foldl (fwRow c) (fwN s.pl rows c) = fwRow c (((s.pl.kinds.zip rows).take t).foldl (fwRow c) (fwN s.pl rows c)) (k, r) := by
        rw [List.take_add_one, hz, List.foldl_append]; rfl
      rw [hw] at b2
      have hrow := hC.tab.row r (List.mem_of_getElem? h4)
      have hcr : c < r.length := by rw [hrow.1]; exact h2
      have hkeys : (((s.pl.kinds.zip rows).take t).foldl (fwRow c) (fwN s.pl rows c)).length ≤ m := by
        have h6 : (((s.pl.kinds.zip rows).take t).foldl (fwRow c) (fwN s.pl rows c)).length = ((((s.pl.kinds.zip rows).take t).map (·.2)).foldl (addN c) (vis rows c)).length := by
          rw [← a2, ← b3, List.length_map]
        rw [h6]
        have hnd : (vis rows c).Nodup := hpre.sublist.nodup List.nodup_range
        have hnd2 := foldN_nodup c (rows := ((s.pl.kinds.zip rows).take t).map (·.2)) hnd
        have := len_sub (l' := List.range m) hnd2 fun a ha => by
          rcases foldN_mem c ha with z | ⟨r', z1, rfl⟩
          · exact hpre.subset z
          · obtain ⟨kr, z2, rfl⟩ := List.mem_map.mp z1
            have z3 := List.mem_of_mem_take z2
            have z4 : kr.2 ∈ rows := (List.of_mem_zip z3).2
            exact List.mem_range.mpr ((hC.tab.row _ z4).2 c h2).1
        rwa [List.length_range] at this
      generalize ((s.pl.kinds.zip rows).take t).foldl (fwRow c) (fwN s.pl rows c) = acc at *
      have hlk : look (fwD acc) (Sum.inl (c : Int)) = some (D.str w0) := by rw [look_fw, b2]; rfl
      have hsz : (fwD acc).length < sizeLine := sz_lt (by simp; omega)
      dsimp only [ev]
      refine ⟨_, ⟨_, by wtm_at "put_", rfl⟩, ?_⟩
      refine ss_expr (d := ((look (fwD acc) (Sum.inl (r.getD c 0 : Int))).getD (.str (w0 ++ [k])))) (M1 := [(q, MO.dK (setd (fwD acc) (Sum.inl (r.getD c 0 : Int)) (.str (w0 ++ [k]))))]) (pv_setd (j := Sum.inl (r.getD c 0 : Int)) (p := q) (M1 := [(q, MO.dK (fwD acc))]) (M2 := [(q, MO.dK (fwD acc))]) (M3 := [(q, MO.dK (fwD acc))]) (y := .int (r.getD c 0 : Nat)) (z := .str (w0 ++ [k])) (by wtm_at "ev") (by wtm_at "mat_") ?_ rfl ?_ (by wtm_at "mat_") (by wtm_at "mput_") hsz rfl) ?_
      · refine pv_sub (M1 := [(q, MO.dK (fwD acc))]) (M2 := [(q, MO.dK (fwD acc))]) (x := rowT r) (y := .int (c : Nat)) (pv_eq (pv_sub (x := .tup (rows.map rowT)) (y := .int (t : Nat)) (M1 := [(q, MO.dK (fwD acc))]) (M2 := [(q, MO.dK (fwD acc))]) (by wtm_at "ev") (by wtm_at "ev") (ix_rT e2)) (by rw [hrr])) (by wtm_at "ev") (ix_nT hcr)
      · refine pv_bin (M1 := [(q, MO.dK (fwD acc))]) (M2 := [(q, MO.dK (fwD acc))]) (x := .str w0) (y := .str [k]) ?_ ?_ (o_cat (sz_line (by simp; omega)))
        · exact pv_sub (M1 := [(q, MO.dK (fwD acc))]) (M2 := [(q, MO.dK (fwD acc))]) (x := .ref q) (y := .int (c : Nat)) (by wtm_at "ev") (by wtm_at "ev") (ix_DM (j := Sum.inl _) (by wtm_at "mat_") rfl hlk)
        · exact pv_sub (M1 := [(q, MO.dK (fwD acc))]) (M2 := [(q, MO.dK (fwD acc))]) (x := .str s.kinds) (y := .int (t : Nat)) (pv_sub (by wtm_at "ev") (by wtm_at "ev") (ix_D (j := Sum.inr _) rfl k1)) (by wtm_at "ev") (ix_S (k := k) (Int.natCast_nonneg t) (by rw [Int.toNat_natCast, hk]; exact h3) (sz_line (by omega)))
      refine ss_nil ⟨?_, _, rfl⟩
      rw [hstep, setd_fw]
      show [(q, MO.dK (fwD (setN acc (r.getD c 0) (w0 ++ [k]))))] = [(q, MO.dK (fwD (setN acc (r.getD c 0) ((lookN acc c).getD [] ++ [k]))))]
      rw [b2]; rfl
    · rintro ρ M ⟨rfl, o1, rfl⟩
      rw [List.length_map, List.length_range, Int.toNat_natCast, List.length_map, List.take_of_length_le (by rw [List.length_zip]; omega), show (s.pl.kinds.zip rows).foldl (fwRow c) (fwN s.pl rows c) = fwN s.pl rows (c + 1) from (fwN_succ ..).symm]
      dsimp only [ev]
      refine ss_augI (by wtm_at "at_") (by wtm_at "put_") (by wtm_at "ev") (ss_nil ⟨m - (c + 1), by omega, c + 1, rfl, by omega, rfl, _, rfl⟩)
  · rw [List.length_map, hc0] at hq
    have hq' : ¬ c < (vis rows c).length := by simpa using hq
    have ec : c = m := by
      rcases Nat.lt_or_ge c m with z | z
      · exact absurd (hC.in_ z) hq'
      · omega
    subst ec
    exact ss_ret (pv_frzD (by wtm_at "ev") (by wtm_at "mcut_")) ⟨rfl, rfl⟩
end

section
variable {P : Program} {w : World} {K : PySem.W.Frag} {mg : Str → Option Value} {base : Heap} [Txt K mg]
abbrev rByLen : DRel := RelF (fun ns : List (List Nat) => [.lst (txs ns)]) (fun ns => ns.length < 64 ∧ ∀ s ∈ ns, s.length ≤ 1000) fun ns => .lst (txs (shortF ns))
theorem f_by_length : FnS P w K mg base "_law_by_length" 1 [] rByLen := by
  refine mk_l_by_length (relF_len fun _ => rfl) (relF_body ?_)
  rintro ns ⟨hn, hs⟩
  dsimp only [start0, N_l_by_length] at *
  wtm_at "bd"
  have hz : ns.length ≤ 100000 := by omega
  have hmx := mxI_pos ns
  have hmx2 : mxI ns ≤ 1000 := by
    obtain ⟨h1, h2, h3⟩ := mxI_spec ns
    by_cases e : ns = []
    · rw [h1 e]; decide
    · obtain ⟨s, a, q⟩ := h3 e
      rw [q]; have := hs s a; omega
  refine ss_par2 (by wtm_at "put_") (pns_v (d := .int (mxI ns)) (pv_eq (pv_maxD (ns := lensI ns) (pv_eq (pv_lc (lc_nm (l := ns) (inj := D.str) (t := fun _ => true) (g := fun s => .int (s.length : Nat)) (by wtm_at "pin") rfl (by wtm_at "nix") (by wtm_at "wipe_") (by wtm_at "put_") (by dsimp only; decide +kernel) (by wtm_at "sd") (fun s h => ⟨PIf.nil, fun _ => by (have h2 := hs s h); wtm_at "ev"⟩))) (by rw [flt_all, List.map_map]; rfl)) (by wtm_at "ev") (by wtm_at "gf")) rfl) (pns_n (pn_lst pas_nil) ?_)) ⟨_, by wtm_at "put_"⟩
  rintro _ _ ⟨q, rfl, rfl⟩
  refine ⟨_, _, _, rfl, by wtm_at "put_", ?_⟩
  refine ss_frzL (nm := "_law_found") (by wtm_at "mcut_") (by wtm_at "at_") (by wtm_at "put_") (by simp only [List.map]; decide +kernel) ?_
  generalize hM : mxI ns = mx at *
  refine ss_for (by wtm_at "pin") (by wtm_at "tgn") (fun i ρ M => M = [] ∧ ∃ o, ρ = ([("_law_names", some (.lst (txs ns))), ("_law_most", some (.int mx)), ("_law_found", some (.lst (txs ((List.range i).flatMap (bucket ns))))), ("_law_name_here", none), ("_law_length", o)] : Dl.Env)) ⟨rfl, none, rfl⟩ ?_ ?_
  · rintro i x ρ M hx ⟨rfl, o, rfl⟩
    try dsimp only at hx
    obtain ⟨L, h1, h2, rfl⟩ := map_get hx
    have ec : L = i := by
      rw [List.getElem?_range (by simpa using h2)] at h1; exact (Option.some.inj h1).symm
    subst ec
    rw [List.length_range] at h2
    refine ⟨_, ⟨_, by wtm_at "put_", rfl⟩, ?_⟩
    have hb : (ns.filter fun s => decide ((s.length : Int) = (L : Int))).length < 64 := by
      have := List.length_filter_le (fun s : List Nat => decide ((s.length : Int) = (L : Int))) ns
      omega
    have hfl := flat_len (bucket ns) 63 (List.range L) fun a _ => by have := bucket_len ns a; omega
    rw [List.length_range] at hfl
    have hbl := bucket_len ns L
    refine ss_set (d := .lst (txs ((List.range L).flatMap (bucket ns)) ++ txs (bucket ns L))) (M1 := []) (by wtm_at "put_") (pv_bin (M1 := []) (M2 := []) (x := .lst (txs ((List.range L).flatMap (bucket ns)))) (y := .lst (txs (bucket ns L))) (by wtm_at "ev") (pv_b1 (pv_lc (lc_nm (l := ns) (inj := D.str) (t := fun s => decide ((s.length : Int) = (L : Int))) (g := D.str) (by wtm_at "pin") rfl (by wtm_at "nix") (by wtm_at "wipe_") (by wtm_at "put_") (by dsimp only; decide +kernel) (by wtm_at "sd") (fun s h => ⟨PIf.one (by (have h2 := hs s h); wtm_at "evb"), fun _ => by wtm_at "ev"⟩))) (b_sortS (ls := ns.filter fun s => decide ((s.length : Int) = (L : Int))) rfl hb (by wtm_at "gf"))) (o_catL (sz_line (by simp only [txs, List.length_map]; omega)))) ?_
    refine ss_nil ⟨rfl, some (.int (L : Nat)), ?_⟩
    rw [List.range_succ, List.flatMap_append]
    simp [txs]
  · rintro ρ M ⟨rfl, o, rfl⟩
    try dsimp only
    rw [List.length_map, List.length_range]
    refine ss_ret (M1 := []) (by wtm_at "ev") ⟨?_, rfl⟩
    unfold shortF
    rw [hM]
end

/-! ### the plain law -/
theorem walk_app (p : Pl) (rows : List (List Nat)) (c : Nat) (a b : List Nat) : walkN p rows c (a ++ b) = walkN p rows (walkN p rows c a) b := by unfold walkN; rw [List.foldl_append]
theorem tb_tb {p : Pl} {rows : List (List Nat)} {n k c : Nat} (hT : TabOk p rows n) (hk : k ∈ p.kinds) (hc : c < n) : tb p rows k (tb p rows k c) = c := by
  have : p.kinds.idxOf k < rows.length := by rw [hT.len]; exact List.idxOf_lt_length_iff.mpr hk
  exact ((hT.row _ (getD_memL this)).2 c hc).2
theorem tb_com {p : Pl} {rows : List (List Nat)} {n a b c : Nat} (hp : p.Ok) (hT : TabOk p rows n) (h : crb p a b = true) (hc : c < n) : tb p rows a (tb p rows b c) = tb p rows b (tb p rows a c) := by
  have h : a ∈ p.cross b := of_decide_eq_true h
  rcases (mem_cross hp).mp h with q | q
  · first | exact (hT.com _ _ q c hc).symm | exact hT.com _ _ q c hc
  · first | exact (hT.com _ _ q c hc).symm | exact hT.com _ _ q c hc
theorem walk_past {p : Pl} {rows : List (List Nat)} {n k : Nat} (hp : p.Ok) (hT : TabOk p rows n) : ∀ {l : List Nat} {c : Nat}, (∀ x ∈ l, crb p x k = true ∧ x ∈ p.kinds) → c < n → walkN p rows (tb p rows k c) l = tb p rows k (walkN p rows c l)
  | [], _, _, _ => rfl
  | x :: l, c, h, hc => by
    obtain ⟨h1, h2⟩ := h x (List.mem_cons_self ..)
    show walkN p rows (tb p rows x (tb p rows k c)) l = tb p rows k (walkN p rows (tb p rows x c) l)
    rw [tb_com hp hT h1 hc]
    exact walk_past hp hT (fun y hy => h y (List.mem_cons_of_mem _ hy)) (tb_lt hT h2 hc)
theorem walk_step {p : Pl} {rows : List (List Nat)} {n k c : Nat} {name : List Nat} (hp : p.Ok) (hT : TabOk p rows n) (hk : k ∈ p.kinds) (hn : ∀ x ∈ name, x ∈ p.kinds) (hc : c < n) : walkN p rows c (stepN (p.cross k) name k) = tb p rows k (walkN p rows c name) := by
  have d1 := down_le (p.cross k) name name.length
  have cin : ∀ m, down (p.cross k) name name.length ≤ m → m < name.length → crb p (name.getD m 0) k = true := fun m a b => decide_eq_true (down_in a b)
  unfold stepN
  dsimp only
  by_cases hd : 0 < down (p.cross k) name name.length ∧ name.getD (down (p.cross k) name name.length - 1) 0 = k
  · rw [if_pos hd]
    generalize hq : down (p.cross k) name name.length = m at *
    obtain ⟨q, rfl⟩ : ∃ q, m = q + 1 := ⟨m - 1, by omega⟩
    rw [Nat.add_sub_cancel] at *
    have e := split_at (l := name) (q := q) (by omega)
    rw [hd.2] at e
    have hc1 := walk_lt hT (way := name.take q) (fun k h => hn k (List.mem_of_mem_take h)) hc
    have hdr : ∀ x ∈ name.drop (q + 1), crb p x k = true ∧ x ∈ p.kinds := fun x hx => by
      refine ⟨?_, hn x (List.mem_of_mem_drop hx)⟩
      obtain ⟨m, a, b, rfl⟩ := mem_drop hx
      exact cin m a b
    have e2 : walkN p rows c name = walkN p rows (tb p rows k (walkN p rows c (name.take q))) (name.drop (q + 1)) := by
      conv => lhs; rw [e]
      rw [walk_app]; rfl
    rw [e2, walk_app, walk_past hp hT hdr hc1, tb_tb hT hk (walk_lt hT (fun x hx => (hdr x hx).2) hc1)]
  · rw [if_neg hd]
    have u2 := upl_ge name (down (p.cross k) name name.length) k
    generalize upl name (down (p.cross k) name name.length) k = u at *
    have hc1 := walk_lt hT (way := name.take u) (fun k h => hn k (List.mem_of_mem_take h)) hc
    have hdr : ∀ x ∈ name.drop u, crb p x k = true ∧ x ∈ p.kinds := fun x hx => by
      refine ⟨?_, hn x (List.mem_of_mem_drop hx)⟩
      obtain ⟨m, a, b, rfl⟩ := mem_drop hx
      exact cin m (by omega) b
    have e2 : walkN p rows c name = walkN p rows (walkN p rows c (name.take u)) (name.drop u) := by
      conv => lhs; rw [← List.take_append_drop u name]
      rw [walk_app]
    rw [e2, List.append_assoc, walk_app]
    exact walk_past hp hT hdr hc1
theorem walk_join {p : Pl} {rows : List (List Nat)} {n : Nat} (hp : p.Ok) (hT : TabOk p rows n) : ∀ {way name : List Nat} {c : Nat}, (∀ x ∈ way, x ∈ p.kinds) → (∀ x ∈ name, x ∈ p.kinds) → c < n → walkN p rows c (joinN p name way) = walkN p rows c (name ++ way)
  | [], name, _, _, _, _ => by rw [List.append_nil]; rfl
  | k :: way, name, c, hw, hn, hc => by
    have hk := hw k (List.mem_cons_self ..)
    show walkN p rows c (joinN p (stepN (p.cross k) name k) way) = _
    rw [walk_join hp hT (fun x h => hw x (List.mem_cons_of_mem _ h)) (stepN_in hn hk) hc, walk_app, walk_step hp hT hk hn hc, walk_app]; rfl
theorem walk_back {p : Pl} {rows : List (List Nat)} {n : Nat} (hT : TabOk p rows n) : ∀ {way : List Nat} {c : Nat}, (∀ x ∈ way, x ∈ p.kinds) → c < n → walkN p rows (walkN p rows c way) way.reverse = c
  | [], _, _, _ => rfl
  | k :: way, c, hw, hc => by
    have hk := hw k (List.mem_cons_self ..)
    rw [List.reverse_cons, walk_app]
    show walkN p rows (walkN p rows (walkN p rows (tb p rows k c) way) way.reverse) [k] = c
    rw [walk_back hT (fun x h => hw x (List.mem_cons_of_mem _ h)) (tb_lt hT hk hc)]
    exact tb_tb hT hk hc
/-- a way that is told leads from the first place to itself -/
theorem way_home {p : Pl} {rows : List (List Nat)} {n c : Nat} (hp : p.Ok) (h : Canon p rows n) (hc : c < n) {kr : Nat × List Nat} (hkr : kr ∈ p.kinds.zip rows) : (∀ x ∈ wayN p rows n c kr, x ∈ p.kinds) ∧ walkN p rows 0 (wayN p rows n c kr) = 0 := by
  have hn : p.kinds.Nodup := hp.asc.imp Nat.ne_of_lt
  obtain ⟨k, r⟩ := kr
  obtain ⟨t1, t2⟩ := tb_at hn h.tab.len hkr c
  have hr := (h.tab.row r (List.of_mem_zip hkr).2).2 c hc
  obtain ⟨_, _, a3, a4⟩ := fw_ok hp h hc
  obtain ⟨_, _, b3, b4⟩ := fw_ok hp h hr.1
  refine ⟨fun x hx => ?_, ?_⟩
  · unfold wayN at hx
    rcases List.mem_append.mp hx with q | q
    · rcases List.mem_append.mp q with q | q
      · exact a3 x q
      · rw [List.mem_singleton.mp q]; exact t2
    · exact b3 x (List.mem_reverse.mp q)
  · unfold wayN
    rw [walk_app, walk_app]
    have e1 : walkN p rows 0 (fw p rows n c) = c := a4
    have e2 : walkN p rows 0 (fw p rows n (r.getD c 0)) = r.getD c 0 := b4
    have e3 : walkN p rows c [k] = r.getD c 0 := t1
    rw [e1]
    dsimp only
    rw [e3]
    have := walk_back h.tab (way := fw p rows n (r.getD c 0)) b3 h.tab.pos
    rwa [e2] at this
theorem name_home {p : Pl} {rows : List (List Nat)} {n : Nat} (hp : p.Ok) (h : Canon p rows n) : ∀ s ∈ namesN p rows n n, (∀ x ∈ s, x ∈ p.kinds) ∧ walkN p rows 0 s = 0 :=
  names_all (G := fun s => (∀ x ∈ s, x ∈ p.kinds) ∧ walkN p rows 0 s = 0) (fun c hc kr hkr => by
    obtain ⟨h1, h2⟩ := way_home hp h hc hkr
    refine ⟨joinN_in (fun x hx => (by cases hx)) h1, ?_⟩
    rw [walk_join hp h.tab h1 (fun x hx => (by cases hx)) h.tab.pos, List.nil_append, h2]) n (Nat.le_refl n)
/-- in order, with and without the empty one -/
theorem mxI_ne (ns : List (List Nat)) : mxI (ns.filter fun s => !decide (s = [])) = mxI ns := by
  obtain ⟨a1, a2, a3⟩ := mxI_spec ns
  obtain ⟨b1, b2, b3⟩ := mxI_spec (ns.filter fun s => !decide (s = []))
  have p1 := mxI_pos ns
  have p2 := mxI_pos (ns.filter fun s => !decide (s = []))
  have le1 : mxI (ns.filter fun s => !decide (s = [])) ≤ mxI ns := by
    by_cases e : ns.filter (fun s => !decide (s = [])) = []
    · rw [b1 e]; exact p1
    · obtain ⟨s, h1, h2⟩ := b3 e
      rw [h2]; exact a2 s (List.mem_filter.mp h1).1
  have le2 : mxI ns ≤ mxI (ns.filter fun s => !decide (s = [])) := by
    by_cases e : ns = []
    · rw [a1 e]; exact p2
    · obtain ⟨s, h1, h2⟩ := a3 e
      by_cases q : s = []
      · rw [h2, q]; exact p2
      · rw [h2]; exact b2 s (List.mem_filter.mpr ⟨h1, by simpa using q⟩)
  omega
theorem bucket_ne (ns : List (List Nat)) (L : Nat) : bucket (ns.filter fun s => !decide (s = [])) L = (bucket ns L).filter fun s => !decide (s = []) := by
  unfold bucket
  rw [List.filter_filter]
  have hmem : ∀ s ∈ sortL (ns.filter fun s => decide ((s.length : Int) = (L : Int))), s.length = L := fun s hs => by
    have := (List.mergeSort_perm _ _).mem_iff.mp hs
    have := of_decide_eq_true (List.mem_filter.mp this).2
    omega
  cases L with
  | zero =>
    have e1 : (ns.filter fun s => decide ((s.length : Int) = ((0 : Nat) : Int)) && !decide (s = [])) = [] := by
      rw [List.filter_eq_nil_iff]
      intro s _ h
      rw [Bool.and_eq_true] at h
      have h1 := of_decide_eq_true h.1
      have : s = [] := List.length_eq_zero_iff.mp (by omega)
      simp [this] at h
    rw [e1]
    symm
    rw [show sortL ([] : List (List Nat)) = [] from (by unfold sortL; exact List.mergeSort_nil), List.filter_eq_nil_iff]
    intro s hs
    have := List.length_eq_zero_iff.mp (hmem s hs)
    simp [this]
  | succ L =>
    have e1 : (ns.filter fun s => decide ((s.length : Int) = ((L + 1 : Nat) : Int)) && !decide (s = [])) = ns.filter fun s => decide ((s.length : Int) = ((L + 1 : Nat) : Int)) := by
      refine List.filter_congr fun s _ => ?_
      by_cases q : s = []
      · subst q
        have : ¬ (([] : List Nat).length : Int) = ((L + 1 : Nat) : Int) := by rw [List.length_nil]; omega
        rw [decide_eq_false this]; rfl
      · simp [q]
    rw [e1]
    symm
    rw [List.filter_eq_self]
    intro s hs
    have := hmem s hs
    have q : s ≠ [] := fun e => by subst e; simp at this
    simpa using q
theorem shortF_ne (ns : List (List Nat)) : shortF (ns.filter fun s => !decide (s = [])) = (shortF ns).filter fun s => !decide (s = []) := by
  unfold shortF
  rw [mxI_ne, List.filter_flatMap]
  congr 1
  funext L
  exact bucket_ne ns L
theorem shortF_mem {ns : List (List Nat)} {s : List Nat} (h : s ∈ shortF ns) : s ∈ ns := by
  unfold shortF at h
  obtain ⟨L, _, h⟩ := List.mem_flatMap.mp h
  unfold bucket at h
  exact (List.mem_filter.mp ((List.mergeSort_perm _ _).mem_iff.mp h)).1
theorem ways_home {p : Pl} {rows : List (List Nat)} {n : Nat} (hp : p.Ok) (h : Canon p rows n) : ∀ s ∈ waysF p rows n, (∀ x ∈ s, x ∈ p.kinds) ∧ walkN p rows 0 s = 0 := fun s hs =>
  name_home hp h s (shortF_mem (List.mem_filter.mp hs).1)
/-- what the law asks at the end -/
theorem at_one_home {p : Pl} {rows : List (List Nat)} {n : Nat} (hp : p.Ok) (h : Canon p rows n) {s : List Nat} (hs : s ∈ waysF p rows n) : walkN p rows 0 (joinN p [] s) = 0 := by
  obtain ⟨a, b⟩ := ways_home hp h s hs
  rw [walk_join hp h.tab a (fun x hx => (by cases hx)) h.tab.pos, List.nil_append, b]
theorem at_two_home {p : Pl} {rows : List (List Nat)} {n : Nat} (hp : p.Ok) (h : Canon p rows n) {s t : List Nat} (hs : s ∈ waysF p rows n) (ht : t ∈ waysF p rows n) : walkN p rows 0 (joinN p [] (joinN p (joinN p [] s) t)) = 0 := by
  obtain ⟨a, b⟩ := ways_home hp h s hs
  obtain ⟨a2, b2⟩ := ways_home hp h t ht
  have i1 := joinN_in (p := p) (name := []) (fun x hx => (by cases hx)) a
  have i2 := joinN_in i1 a2
  rw [walk_join hp h.tab i2 (fun x hx => (by cases hx)) h.tab.pos, List.nil_append, walk_join hp h.tab a2 i1 h.tab.pos, walk_app, at_one_home hp h hs, b2]

theorem drp_setS (ns : List (List Nat)) : drp (setS ns) (Sum.inr []) = setS (ns.filter fun s => !decide (s = [])) := by
  unfold drp setS
  rw [List.filter_map]
  congr 1
  refine List.filter_congr fun s _ => ?_
  show decide ((Sum.inr s : DK) ≠ Sum.inr []) = !decide (s = [])
  by_cases h : s = []
  · subst h; simp
  · have hne : (Sum.inr s : DK) ≠ Sum.inr [] := fun e => h (inr_inj _ _ e)
    rw [decide_eq_true hne, decide_eq_false h]; rfl
/-- how many places, and the pen behind it -/
def manyP (s : Scn) (pen : Pen) : Nat × Pen := if s.kinds = [] then (1, pen) else ((1 + (drawP pen 7).1).toNat, (drawP pen 7).2)
theorem many_ok {s : Scn} {pen : Pen} {n : Nat} (h : PenOk n pen) : 0 < (manyP s pen).1 ∧ (manyP s pen).1 ≤ 7 ∧ PenOk (n + 1) (manyP s pen).2 ∧ (s.kinds = [] → (manyP s pen).1 = 1) := by
  have d := draw_bd pen (span := 7) (by decide)
  unfold manyP
  split
  · exact ⟨by dsimp only; omega, by dsimp only; omega, h.mono (by omega), fun _ => rfl⟩
  · rename_i hk
    exact ⟨by dsimp only; omega, by dsimp only; omega, draw_ok h 7, fun e => absurd e hk⟩
theorem pin_eq {c : Cfg} {tg e : Expr} {ρ : Dl.Env} {M M1 : Mem} {xs ys : List D} {Φ : Mem → Prop} (h : PInM c tg e ρ M xs M1 Φ) (q : xs = ys) : PInM c tg e ρ M ys M1 Φ := q ▸ h
theorem fl_txs {ns : List (List Nat)} (h : ∀ s ∈ ns, ∀ k ∈ s, k < 1114112) : Fl 1 (.tup (txs ns)) := by
  unfold Fl
  rw [fls_iff]
  intro x hx
  obtain ⟨s, hs, rfl⟩ := List.mem_map.mp hx
  unfold Fl
  exact h s hs
section
variable {P : Program} {w : World} {K : PySem.W.Frag} {mg : Str → Option Value} {base : Heap} [Txt K mg]
abbrev rLaw : DRel := RelF (fun xs : List Int => [.arr (xs.map D.int)]) (fun xs => xs.length ≤ 63) fun _ => .bl true
set_option maxHeartbeats 4000000 in
theorem law_body : ∀ ds M d M', rLaw ds M d M' → PSsn ⟨P, w, K, mg, base, N_law, defScope s_law, 6, (fun _ => true), noW⟩ (defBody s_law) (start0 N_law ds) M (bodyP d M') := by
  refine relF_body ?_
  rintro xs hx
  dsimp only [start0, N_law] at *
  wtm_at "bd"
  refine ss_setN (by wtm_at "put_") (pn_imp (pn_call f_begin (by wtm_at "args") ⟨xs, by omega, rfl, rfl, rfl⟩) ?_)
  rintro _ _ ⟨M0, ⟨q, rfl, rfl⟩, rfl⟩
  have hp0 : PenOk 0 ⟨xs.take 63, 0, 0⟩ := ⟨Int.le_refl _, Int.le_refl _, by simp; omega⟩
  generalize (⟨xs.take 63, 0, 0⟩ : Pen) = pen0 at *
  let ev : Option D → Option D → Option D → Option D → Option D → Option D → Option D → Option D → Option D → Option D → Option D → Dl.Env := fun o1 o2 o3 o4 o5 o6 o7 o8 o9 oa ob => [("_law_script", some (.arr (xs.map D.int))), ("_law_pen", some (.ref q)), ("_law_turn", o1), ("_law_scene_here", o2), ("_law_tables", o3), ("_law_rows", o4), ("_law_first", o5), ("_law_due", o6), ("_law_place", o7), ("_law_k", o8), ("_law_back", o9), ("_law_floor", oa), ("_law_told", ob)]
  have hmin : 0 ≤ (2 : Int) + (if ((xs.map D.int).length : Int) < 4 then ((xs.map D.int).length : Int) else 4) ∧ (2 : Int) + (if ((xs.map D.int).length : Int) < 4 then ((xs.map D.int).length : Int) else 4) ≤ 6 := by split <;> omega
  refine ss_for (M1 := [(q, .dK (penK pen0))]) (pin_range (pv_bin (by wtm_at "ev") (pv_min2 (by wtm_at "ev") (pv_lenA (by wtm_at "ev") (by wtm_at "gf")) (by wtm_at "gf")) o_add) (by wtm_at "gf") (by omega) (by omega)) (by wtm_at "tgn") (fun i ρ M => ∃ pen, PenOk (200 * i) pen ∧ M = [(q, .dK (penK pen))] ∧ ∃ o1 o2 o3 o4 o5 o6 o7 o8 o9 oa ob, ρ = ev o1 o2 o3 o4 o5 o6 o7 o8 o9 oa ob) ⟨pen0, hp0, rfl, none, none, none, none, none, none, none, none, none, none, none, rfl⟩ ?_ ?_
  · rintro i x ρ M hxi ⟨pen, hp, rfl, o1, o2, o3, o4, o5, o6, o7, o8, o9, oa, ob, rfl⟩
    obtain ⟨i', e1, e2, rfl⟩ := map_get hxi
    rw [List.length_range] at e2
    have hi6 : i < 6 := by omega
    have hp : PenOk (200 * i) pen := hp
    clear e1 hxi
    dsimp only [ev]
    refine ⟨_, ⟨_, by wtm_at "put_", rfl⟩, ?_⟩
    obtain ⟨hT, hpS, hkl, _⟩ := scene_ok (least := 0) (most := 4) hp (by decide) (by decide) (by decide)
    refine ss_set (d := sceneD K (sceneP pen 0 4).1) (M1 := [(q, .dK (penK (sceneP pen 0 4).2))]) (by wtm_at "put_") (pv_callO f_scene (pen, 0, 4) ⟨hp.mono (by omega), by dsimp only; omega, by dsimp only; omega, by dsimp only; omega⟩ (by wtm_at "args") MCut.here MCut.here) ?_
    generalize (sceneP pen 0 4).2 = pen1 at *
    generalize (sceneP pen 0 4).1 = s at *
    have hkl : s.kinds.length ≤ 4 := hkl
    have k1 := lk_kinds (K := K) s
    have k3 := lk_plan (K := K) s
    have hpk : s.pl.kinds = s.kinds := hT.kinds
    have hok : s.pl.Ok := mkPl_ok hT.made
    have hnd : s.kinds.Nodup := hT.asc.imp Nat.ne_of_lt
    obtain ⟨n0, n7, hpM, n1⟩ := many_ok (s := s) hpS
    have hD := doors_ok (s := s) n0 (by omega) hpM
    have hTab := doors_tab hT n0 hD
    refine ss_set (d := .dct (tabK (doorsP (manyP s pen1).2 s (manyP s pen1).1).1)) (M1 := [(q, .dK (penK (doorsP (manyP s pen1).2 s (manyP s pen1).1).2))]) (by wtm_at "put_") (pv_callO (M1 := [(q, .dK (penK (manyP s pen1).2))]) f_doors ((manyP s pen1).2, s, (manyP s pen1).1) ⟨hpM.mono (by omega), n0, by dsimp only; omega, by dsimp only; omega, hnd⟩ (pas_cons (by wtm_at "ev") (pas_cons (by wtm_at "ev") (pas1 (pv_if (M1 := [(q, .dK (penK pen1))]) (k := !decide (s.kinds = [])) (pb_cmp (pv_sub (by wtm_at "ev") (by wtm_at "ev") (ix_D (j := Sum.inr _) rfl k1)) (pv_eq (d := .str ("" : Str).cps.toList) (by wtm_at "ev") (congrArg D.str (by decide +kernel))) o_neS) (fun h => ?_) (fun h => ?_))))) MCut.here MCut.here) ?_
    · have h : ¬ s.kinds = [] := by simpa using h
      have d7 := draw_bd pen1 (span := 7) (by decide)
      have em : manyP s pen1 = ((1 + (drawP pen1 7).1).toNat, (drawP pen1 7).2) := if_neg h
      rw [em]
      dsimp only
      exact pv_eq (pv_bin (M1 := [(q, .dK (penK pen1))]) (by wtm_at "ev") (pv_callO (M1 := [(q, .dK (penK pen1))]) f_draw (pen1, (7 : Int)) ⟨by dsimp only; omega, by dsimp only; omega, hpS.mono (by omega)⟩ (by wtm_at "args") MCut.here MCut.here) o_add) (congrArg D.int (by dsimp only; omega))
    · have h : s.kinds = [] := by simpa using h
      have em : manyP s pen1 = (1, pen1) := if_pos h
      rw [em]
      exact pv_int
    generalize manyP s pen1 = mp at *
    obtain ⟨n, pen2⟩ := mp
    dsimp only at n0 n7 hpM n1 hD hTab
    have hpD : PenOk 10000 (doorsP pen2 s n).2 := hD.pen.mono (by
      have h1 : s.kinds.length * (1 + 4 * n) ≤ 4 * (1 + 4 * n) := Nat.mul_le_mul_right _ hkl
      omega)
    have hpD2 : PenOk (200 * i + 160) (doorsP pen2 s n).2 := hD.pen.mono (by
      have h1 : s.kinds.length * (1 + 4 * n) ≤ 4 * (1 + 4 * n) := Nat.mul_le_mul_right _ hkl
      omega)
    have hkeys := hD.keys
    have hTb : TbsOk (doorsP pen2 s n).1 n := ⟨by
      have := congrArg List.length hkeys
      rw [List.length_map] at this
      omega, hD.row⟩
    dsimp only
    generalize doorsP pen2 s n = dp at *
    obtain ⟨ts, pen3⟩ := dp
    dsimp only at hTab hpD hpD2 hkeys hTb
    dsimp only
    -- rows
    obtain ⟨hcl, f0, f1, f2⟩ := placesN_ok hTab n0
    have hlen : (placesN (ts.map (·.2)) n 0).length ≤ n := by
      have := len_sub (l' := List.range n) hcl.nd fun a ha => List.mem_range.mpr (hcl.lt a ha)
      rwa [List.length_range] at this
    have hN := hTab.num hok hcl f1
    have hC : Canon s.pl (numR (ts.map (·.2)) (placesN (ts.map (·.2)) n 0)) (placesN (ts.map (·.2)) n 0).length := ⟨hN, num_places hok hTab n0⟩
    refine ss_set (d := .tup ((numR (ts.map (·.2)) (placesN (ts.map (·.2)) n 0)).map rowT)) (M1 := [(q, .dK (penK pen3))]) (by wtm_at "put_") (pv_sub (pv_callF f_lnumbered (s, ts, n) ⟨hkeys, hnd, by dsimp only; omega, hTb, n0, by dsimp only; omega⟩ (by wtm_at "args")) (by wtm_at "ev") (ix_T (by decide) rfl)) ?_
    have hfl : MkS P w K mg base "Closed" (He.ga K "Closed") 4 [] (rClosed K) := f_Closed
    have hCl : closedF K s.pl (numR (ts.map (·.2)) (placesN (ts.map (·.2)) n 0)) (placesN (ts.map (·.2)) n 0).length = closedF K s.pl (numR (ts.map (·.2)) (placesN (ts.map (·.2)) n 0)) (placesN (ts.map (·.2)) n 0).length := rfl
    generalize hm : (placesN (ts.map (·.2)) n 0).length = m at *
    generalize hrw : numR (ts.map (·.2)) (placesN (ts.map (·.2)) n 0) = rows at *
    have hm7 : m ≤ 7 := by omega
    have hrl : rows.length = s.kinds.length := by rw [← hpk]; exact hC.tab.len
    have hzl : (s.pl.kinds.zip rows).length ≤ 4 := by rw [List.length_zip]; omega
    have hmk : m * s.pl.kinds.length < 64 := by
      have : m * s.pl.kinds.length ≤ 7 * 4 := Nat.mul_le_mul hm7 (by rw [hpk]; exact hkl)
      omega
    refine ss_par2 (by wtm_at "put_") (pns_v (d := .dct (fwD (fwN s.pl rows m))) (M1 := [(q, .dK (penK pen3))]) (pv_callF f_lfirst (s, rows, m) ⟨hpk.symm, hok, hC, by dsimp only; omega, by dsimp only; omega⟩ (by wtm_at "args")) (pns_n pn_dct ?_)) ⟨_, by wtm_at "put_"⟩
    rintro _ _ ⟨z, rfl, rfl⟩
    refine ⟨_, _, _, rfl, by wtm_at "put_", ?_⟩
    have hks : (fwD (fwN s.pl rows m)).map (fun kv => kD kv.1) = (List.range m).map fun c => D.int (c : Nat) := by
      rw [← hC.all, ← (fwN_ok hok hC m (Nat.le_refl m)).2, List.map_map, List.map_map]; rfl
    have hlk : ∀ c, c < m → look (fwD (fwN s.pl rows m)) (Sum.inl (c : Int)) = some (D.str (fw s.pl rows m c)) := fun c hc => by
      rw [look_fw, (fw_ok hok hC hc).1]; rfl
    have hnsl : ∀ c, (namesN s.pl rows m c).length ≤ c * 4 := fun c => namesN_len hzl c
    let ev2 : Option D → Option D → Option D → Option D → Option D → Dl.Env := fun o7 o8 o9 oa ob => [("_law_script", some (.arr (xs.map D.int))), ("_law_pen", some (.ref q)), ("_law_turn", some (.int (i' : Nat))), ("_law_scene_here", some (sceneD K s)), ("_law_tables", some (.dct (tabK ts))), ("_law_rows", some (.tup (rows.map rowT))), ("_law_first", some (.dct (fwD (fwN s.pl rows m)))), ("_law_due", some (.ref z)), ("_law_place", o7), ("_law_k", o8), ("_law_back", o9), ("_law_floor", oa), ("_law_told", ob)]
    refine ss_for (M1 := [(z, .dK []), (q, .dK (penK pen3))]) (pin_eq (pin_of (by wtm_at "ev") px_dct) hks) (by wtm_at "tgn") (fun j ρ M => M = [(z, .dK (setS (namesN s.pl rows m j))), (q, .dK (penK pen3))] ∧ ∃ o7 o8 o9, ρ = ev2 o7 o8 o9 oa ob) ⟨rfl, _, _, _, rfl⟩ ?_ ?_
    · rintro j x ρ M hxj ⟨rfl, o7, o8, o9, rfl⟩
      obtain ⟨c, c1, c2, rfl⟩ := map_get hxj
      rw [List.length_range] at c2
      rw [List.getElem?_range c2] at c1
      cases c1
      have hlen1 := hnsl j
      dsimp only [ev2]
      refine ⟨_, ⟨_, by wtm_at "put_", rfl⟩, ?_⟩
      refine ss_for (M1 := [(z, .dK (setS (namesN s.pl rows m j))), (q, .dK (penK pen3))]) (pin_range (pv_lenT (xs := rows.map rowT) (by wtm_at "ev") (by wtm_at "gf")) (by wtm_at "gf") (by rw [List.length_map]; omega) (by rw [List.length_map]; omega)) (by wtm_at "tgn") (fun t ρ M => M = [(z, .dK (setS (namesF s.pl rows m j ((s.pl.kinds.zip rows).take t) (namesN s.pl rows m j)))), (q, .dK (penK pen3))] ∧ ∃ o8 o9, ρ = ev2 (some (.int (j : Nat))) o8 o9 oa ob) ⟨rfl, _, _, rfl⟩ ?_ ?_
      · rintro t x ρ M hxt ⟨rfl, o8, o9, rfl⟩
        obtain ⟨t', t1, t2, rfl⟩ := map_get hxt
        rw [List.length_range, Int.toNat_natCast, List.length_map] at t2
        rw [Int.toNat_natCast, List.length_map, List.getElem?_range t2] at t1
        cases t1
        have hkl2 : t < s.pl.kinds.length := by rw [hpk]; omega
        have h3 : s.pl.kinds[t]? = some (s.pl.kinds.getD t 0) := by rw [List.getElem?_eq_getElem hkl2, List.getD_eq_getElem?_getD, List.getElem?_eq_getElem hkl2]; rfl
        have h4 : rows[t]? = some (rows.getD t []) := by rw [List.getElem?_eq_getElem t2, List.getD_eq_getElem?_getD, List.getElem?_eq_getElem t2]; rfl
        generalize s.pl.kinds.getD t 0 = k at *
        generalize hrr : rows.getD t [] = r at *
        have hz : (s.pl.kinds.zip rows)[t]? = some (k, r) := List.getElem?_zip_eq_some.mpr ⟨h3, h4⟩
        have hkr := List.mem_of_getElem? hz
        obtain ⟨w1, w2, w3⟩ := wayN_ok hok hC c2 hkr
        dsimp only at w3
        have hrow := hC.tab.row r (List.mem_of_getElem? h4)
        have hcr : j < r.length := by rw [hrow.1]; exact c2
        have hstep : namesF s.pl rows m j ((s.pl.kinds.zip rows).take (t + 1)) (namesN s.pl rows m j) = addS (namesF s.pl rows m j ((s.pl.kinds.zip rows).take t) (namesN s.pl rows m j)) (joinN s.pl [] (wayN s.pl rows m j (k, r))) := by
          unfold namesF
          rw [List.take_add_one, hz, List.foldl_append]; rfl
        have hl1 := namesF_len s.pl rows m j ((s.pl.kinds.zip rows).take t) (namesN s.pl rows m j)
        have hl2 : ((s.pl.kinds.zip rows).take t).length ≤ 4 := by rw [List.length_take]; omega
        rw [hstep]
        generalize namesF s.pl rows m j ((s.pl.kinds.zip rows).take t) (namesN s.pl rows m j) = ns at *
        have a1 := (fw_ok hok hC c2).2.1
        have a2 := (fw_ok hok hC w3).2.1
        dsimp only [ev2]
        refine ⟨_, ⟨_, by wtm_at "put_", rfl⟩, ?_⟩
        refine ss_set (d := .str (fw s.pl rows m (r.getD j 0)).reverse) (M1 := [(z, .dK (setS ns)), (q, .dK (penK pen3))]) (by wtm_at "put_") (pv_rev (M1 := [(z, .dK (setS ns)), (q, .dK (penK pen3))]) (x := .str (fw s.pl rows m (r.getD j 0))) (pv_sub (x := .dct (fwD (fwN s.pl rows m))) (y := .int (r.getD j 0 : Nat)) (M1 := [(z, .dK (setS ns)), (q, .dK (penK pen3))]) (M2 := [(z, .dK (setS ns)), (q, .dK (penK pen3))]) (by wtm_at "ev") (pv_sub (x := rowT r) (y := .int (j : Nat)) (M1 := [(z, .dK (setS ns)), (q, .dK (penK pen3))]) (M2 := [(z, .dK (setS ns)), (q, .dK (penK pen3))]) (pv_eq (pv_sub (x := .tup (rows.map rowT)) (y := .int (t : Nat)) (M1 := [(z, .dK (setS ns)), (q, .dK (penK pen3))]) (M2 := [(z, .dK (setS ns)), (q, .dK (penK pen3))]) (by wtm_at "ev") (by wtm_at "ev") (ix_rT t2)) (by rw [hrr])) (by wtm_at "ev") (ix_nT hcr)) (ix_D (j := Sum.inl _) rfl (hlk _ w3))) (rv_S (sz_line (by omega)))) ?_
        refine ss_dput (d := .bl true) (M1 := [(z, .dK (setS ns)), (q, .dK (penK pen3))]) (M2 := [(z, .dK (setS ns)), (q, .dK (penK pen3))]) (M3 := [(z, .dK (setS ns)), (q, .dK (penK pen3))]) (by wtm_at "ev") (by wtm_at "ev") (pv_callF f_name (s, wayN s.pl rows m j (k, r)) ⟨hT, fun x hx => by dsimp only at hx ⊢; rw [← hpk]; exact w1 x hx, by dsimp only; omega⟩ (pas_cons (by wtm_at "ev") (pas1 (pv_bin (M1 := [(z, .dK (setS ns)), (q, .dK (penK pen3))]) (x := .str (fw s.pl rows m j ++ [k])) (pv_bin (M1 := [(z, .dK (setS ns)), (q, .dK (penK pen3))]) (x := .str (fw s.pl rows m j)) (y := .str [k]) (pv_sub (x := .dct (fwD (fwN s.pl rows m))) (y := .int (j : Nat)) (M1 := [(z, .dK (setS ns)), (q, .dK (penK pen3))]) (M2 := [(z, .dK (setS ns)), (q, .dK (penK pen3))]) (by wtm_at "ev") (by wtm_at "ev") (ix_D (j := Sum.inl _) rfl (hlk _ c2))) (pv_sub (x := .str s.kinds) (y := .int (t : Nat)) (pv_sub (by wtm_at "ev") (by wtm_at "ev") (ix_D (j := Sum.inr _) rfl k1)) (by wtm_at "ev") (ix_S (k := k) (Int.natCast_nonneg t) (by rw [Int.toNat_natCast, ← hpk]; exact h3) (sz_line (by omega)))) (o_cat (sz_line (by rw [List.length_singleton]; omega)))) (by wtm_at "ev") (o_cat (sz_line (by rw [List.length_append, List.length_singleton, List.length_reverse]; omega))))))) (by wtm_at "key_") (by wtm_at "mat_") (by wtm_at "mput_") (sz_lt (by simp; omega)) ?_
        refine ss_nil ⟨?_, _, _, rfl⟩
        rw [put_setS]
      · rintro ρ M ⟨rfl, o8, o9, rfl⟩
        refine ss_nil ⟨?_, _, _, _, rfl⟩
        rw [List.length_map, List.length_range, Int.toNat_natCast, List.length_map, List.take_of_length_le (by rw [List.length_zip]; omega), namesN_succ]
    · rintro ρ M ⟨rfl, o7, o8, o9, rfl⟩
      rw [List.length_map, List.length_range]
      dsimp only [ev2]
      have hnm := hnsl m
      have hnl : ((namesN s.pl rows m m).filter fun s => !decide (s = [])).length < 64 := by
        have := List.length_filter_le (fun s : List Nat => !decide (s = [])) (namesN s.pl rows m m)
        omega
      have hns : ∀ t ∈ namesN s.pl rows m m, t.length ≤ 15 ∧ ∀ x ∈ t, x ∈ s.pl.kinds := names_all (G := fun t => t.length ≤ 15 ∧ ∀ x ∈ t, x ∈ s.pl.kinds) (fun c hc kr hkr => by
        obtain ⟨h0, h1, _⟩ := wayN_ok hok hC hc hkr
        have h2 := joinN_len s.pl (wayN s.pl rows m c kr) []
        rw [List.length_nil] at h2
        exact ⟨by omega, joinN_in (by simp) h0⟩) m (Nat.le_refl m)
      refine ss_expr (d := (look (setS (namesN s.pl rows m m)) (Sum.inr [])).getD .non) (M1 := [(z, .dK (setS ((namesN s.pl rows m m).filter fun s => !decide (s = [])))), (q, .dK (penK pen3))]) (pv_dpop2 (j := Sum.inr []) (y := .str []) (by wtm_at "ev") (by wtm_at "mat_") (pv_eq (d := .str ("" : Str).cps.toList) (by wtm_at "ev") (congrArg D.str (by decide +kernel))) rfl (by wtm_at "ev") (by wtm_at "mat_") (by rw [drp_setS]; wtm_at "mput_") rfl) ?_
      refine ss_set (d := closedD K s.pl rows m) (M1 := [(z, .dK (setS ((namesN s.pl rows m m).filter fun s => !decide (s = [])))), (q, .dK (penK pen3))]) (by wtm_at "put_") (pv_eq (pv_makeI hfl (s.pl, ts.map (·.2), n) ⟨hok, hTab, by dsimp only; omega, fun e => n1 (by rw [← hpk]; exact e)⟩ (pas_cons (pv_sub (by wtm_at "ev") (by wtm_at "ev") (ix_D (j := Sum.inr _) rfl k3)) (pas1 (pv_callF f_lists (s, ts) ⟨hkeys, hnd, by dsimp only; omega⟩ (by wtm_at "args"))))) (by dsimp only; rw [hrw, hm])) ?_
      refine ss_set (d := .tup (txs (waysF s.pl rows m))) (M1 := [(z, .dK (setS ((namesN s.pl rows m m).filter fun s => !decide (s = [])))), (q, .dK (penK pen3))]) (by wtm_at "put_") (pv_methF0 (by wtm_at "ev") f_ways (s.pl, rows, m) ⟨hok, hC, by dsimp only; omega, hmk⟩ (hl := by wtm_at "lno")) ?_
      have hways : waysF s.pl rows m = shortF ((namesN s.pl rows m m).filter fun s => !decide (s = [])) := (shortF_ne _).symm
      have hwm : ∀ t ∈ waysF s.pl rows m, t.length ≤ 15 ∧ (∀ x ∈ t, x ∈ s.pl.kinds) := fun t ht => hns t (shortF_mem (List.mem_filter.mp ht).1)
      have hwl : (waysF s.pl rows m).length ≤ 100000 := by
        unfold waysF
        have h1 := List.length_filter_le (fun s : List Nat => !decide (s = [])) (shortF (namesN s.pl rows m m))
        unfold shortF at h1 ⊢
        have h2 := flat_len (bucket (namesN s.pl rows m m)) 28 (List.range ((mxI (namesN s.pl rows m m)) + 1).toNat) fun a _ => by have := bucket_len (namesN s.pl rows m m) a; omega
        rw [List.length_range] at h2
        have hmx2 : mxI (namesN s.pl rows m m) ≤ 1000 := by
          obtain ⟨h1, h2, h3⟩ := mxI_spec (namesN s.pl rows m m)
          by_cases e : namesN s.pl rows m m = []
          · rw [h1 e]; decide
          · obtain ⟨t, a, q⟩ := h3 e
            rw [q]; have := (hns t a).1; omega
        omega
      have hfw : Fl 1 (.tup (txs (waysF s.pl rows m))) := fl_txs fun t ht k hk => by
        have := hok.lo k ((hwm t ht).2 k hk); omega
      refine ss_if (k := false) (M1 := [(z, .dK (setS ((namesN s.pl rows m m).filter fun s => !decide (s = [])))), (q, .dK (penK pen3))]) (pb_cmp (by wtm_at "ev") (pv_b1 (pv_callF f_by_length ((namesN s.pl rows m m).filter fun s => !decide (s = [])) ⟨hnl, fun t ht => by have := (hns t (List.mem_filter.mp ht).1).1; omega⟩ (pas1 (pv_b1 (by wtm_at "ev") (b_listKM (by wtm_at "mat_") (by wtm_at "gf")))) (by rw [List.map_map]; rfl)) (b_tupL (by wtm_at "gf"))) (o_neP (n := 1) (m := 1) (d := .tup (txs (waysF s.pl rows m))) (e := .tup (txs (shortF ((namesN s.pl rows m m).filter fun s => !decide (s = []))))) (pdat hfw) (pdat (by rw [← hways]; exact hfw)) hfw (by rw [← hways]; exact hfw) (by rw [← hways]; simp))) (fun h => by cases h) (fun _ => ss_nil ?_)
      refine ss_drop MCut.here ?_
      have hAt : ∀ {a : List Nat}, a ∈ waysF s.pl rows m → walkN s.pl rows 0 (joinN s.pl [] a) = 0 := fun h => at_one_home hok hC h
      have hAt2 : ∀ {a b : List Nat}, a ∈ waysF s.pl rows m → b ∈ waysF s.pl rows m → walkN s.pl rows 0 (joinN s.pl [] (joinN s.pl (joinN s.pl [] a) b)) = 0 := fun h1 h2 => at_two_home hok hC h1 h2
      generalize waysF s.pl rows m = told at *
      let ev3 : Option D → Dl.Env := fun o8 => [("_law_script", some (.arr (xs.map D.int))), ("_law_pen", some (.ref q)), ("_law_turn", some (.int (i' : Nat))), ("_law_scene_here", some (sceneD K s)), ("_law_tables", some (.dct (tabK ts))), ("_law_rows", some (.tup (rows.map rowT))), ("_law_first", some (.dct (fwD (fwN s.pl rows m)))), ("_law_due", some (.ref z)), ("_law_place", o7), ("_law_k", o8), ("_law_back", o9), ("_law_floor", some (closedD K s.pl rows m)), ("_law_told", some (.tup (txs told)))]
      have hmin2 : 0 ≤ (if ((txs told).length : Int) < 6 then ((txs told).length : Int) else 6) ∧ (if ((txs told).length : Int) < 6 then ((txs told).length : Int) else 6) ≤ 6 ∧ (if ((txs told).length : Int) < 6 then ((txs told).length : Int) else 6) ≤ ((txs told).length : Int) := by split <;> omega
      refine ss_for (M1 := [(q, .dK (penK pen3))]) (pin_range (pv_min2 (by wtm_at "ev") (pv_lenT (by wtm_at "ev") (by wtm_at "gf")) (by wtm_at "gf")) (by wtm_at "gf") (by omega) (by omega)) (by wtm_at "tgn") (fun t ρ M => ∃ pn, PenOk (200 * i + 160 + 3 * t) pn ∧ M = [(q, .dK (penK pn))] ∧ ∃ o8, ρ = ev3 o8) ⟨pen3, hpD2, rfl, _, rfl⟩ ?_ ?_
      · rintro t x ρ M hxt ⟨pn, hpn, rfl, o8', rfl⟩
        obtain ⟨t', t1, t2, rfl⟩ := map_get hxt
        rw [List.length_range] at t2
        rw [List.length_map] at hmin2 t2
        have htl : 0 < told.length := by omega
        have ht6 : t < 6 := by omega
        dsimp only [ev3]
        refine ⟨_, ⟨_, by wtm_at "put_", rfl⟩, ?_⟩
        have hpick : ∀ (p : Pen), ∃ a ∈ told, pickV p (txs told) = .str a := fun p => by
          have hd := draw_bd p (span := ((txs told).length : Int)) (by rw [List.length_map]; omega)
          unfold pickV
          rw [List.length_map] at hd ⊢
          have hl : (drawP p (told.length : Int)).1.toNat < told.length := by omega
          refine ⟨told[(drawP p (told.length : Int)).1.toNat], List.getElem_mem _, ?_⟩
          simp [List.getD_eq_getElem?_getD, hl]
        have u1 := draw_ok hpn (txs told).length
        obtain ⟨a, ha, ea⟩ := hpick pn
        obtain ⟨la, ka⟩ := hwm a ha
        have ka' : ∀ x ∈ a, x ∈ s.kinds := by rw [← hpk]; exact ka
        have ja : ∀ x ∈ joinN s.pl [] a, x ∈ s.pl.kinds := joinN_in (by simp) ka
        refine ss_if (k := false) (M1 := [(q, .dK (penK (drawP pn (txs told).length).2))]) (pb_cmp (x := .int 0) (pv_eq (pv_methF (by wtm_at "ev") f_at (s.pl, rows, m, joinN s.pl [] a) ⟨hok, hC.tab, ja⟩ (pas1 (pv_callF f_lroom (s, a) ⟨hT, ka', by dsimp only; omega⟩ (pas_cons (by wtm_at "ev") (pas1 (pv_eq (pv_callO f_pick (pn, false, txs told) ⟨by rw [List.length_map]; exact htl, by rw [List.length_map]; omega, hpn.mono (by omega)⟩ (by wtm_at "args") MCut.here MCut.here) ea))))) (hl := by wtm_at "lno")) (by dsimp only; rw [hAt ha]; rfl)) (by wtm_at "ev") (by exact o_neI)) (fun h => by cases h) (fun _ => ss_nil ?_)
        generalize (drawP pn (txs told).length).2 = pn1 at *
        have u2 := draw_ok u1 (txs told).length
        obtain ⟨b, hb, eb⟩ := hpick pn1
        obtain ⟨lb, kb⟩ := hwm b hb
        have kb' : ∀ x ∈ b, x ∈ s.kinds := by rw [← hpk]; exact kb
        have jb : ∀ x ∈ joinN s.pl [] b, x ∈ s.pl.kinds := joinN_in (by simp) kb
        have lb2 := joinN_len s.pl b []
        generalize hpn2 : (drawP pn1 (txs told).length).2 = pn2 at *
        have u3 := draw_ok u2 (txs told).length
        obtain ⟨d, hd, ed⟩ := hpick pn2
        obtain ⟨ld, kd⟩ := hwm d hd
        refine ss_if (k := false) (M1 := [(q, .dK (penK (drawP pn2 (txs told).length).2))]) (pb_cmp (x := .int 0) (pv_eq (pv_methF (by wtm_at "ev") f_at (s.pl, rows, m, joinN s.pl [] (joinN s.pl (joinN s.pl [] b) d)) ⟨hok, hC.tab, joinN_in (by simp) (joinN_in jb kd)⟩ (pas1 (pv_bin (pv_callF f_lroom (s, b) ⟨hT, kb', by dsimp only; omega⟩ (pas_cons (by wtm_at "ev") (pas1 (pv_eq (pv_callO f_pick (pn1, false, txs told) ⟨by rw [List.length_map]; exact htl, by rw [List.length_map]; omega, u1.mono (by omega)⟩ (by wtm_at "args") MCut.here MCut.here) eb)))) (pv_eq (pv_callO f_pick (pn2, false, txs told) ⟨by rw [List.length_map]; exact htl, by rw [List.length_map]; omega, u2.mono (by omega)⟩ (pas_cons (by wtm_at "ev") (pas1 (by wtm_at "ev"))) (by rw [hpn2]; exact MCut.here) MCut.here) ed) (o_ownS (nm := "add") (rel := rRoomAdd K) f_Room_add ⟨(s.pl, joinN s.pl [] b, d), rfl, ⟨kd, jb, by dsimp only; rw [List.length_nil] at lb2; omega⟩, rfl, rfl, rfl⟩))) (hl := by wtm_at "lno")) (by dsimp only; rw [hAt2 hb hd]; rfl)) (by wtm_at "ev") (by exact o_neI)) (fun h => by cases h) (fun _ => ss_nil ?_)
        exact ss_nil ⟨_, u3.mono (by omega), rfl, _, rfl⟩
      · rintro ρ M ⟨pn, hpn, rfl, o8', rfl⟩
        rw [List.length_map, List.length_range] at hpn
        exact ss_nil ⟨pn, hpn.mono (by omega), rfl, _, _, _, _, _, _, _, _, _, _, _, rfl⟩
  · rintro ρ M ⟨pen, hp, rfl, o1, o2, o3, o4, o5, o6, o7, o8, o9, oa, ob, rfl⟩
    exact ss_ret (M1 := []) (pv_drop (by wtm_at "ev") MCut.here) ⟨rfl, rfl⟩
end

/-- what the call starts from -/
theorem law_start {K : PySem.W.Frag} {H : Hp} {a : Addr} {ns : List Int} (hl : ns.length ≤ 63) (hO : Only H) (hS : SqL K H a (ns.map V.int)) : spD K rLaw [.ref a] H (fun v _ => v = .bl true) fun _ _ _ => False :=
  ⟨H, [.arr (ns.map D.int)], [], .bl true, [], ⟨ns, rfl, hl, rfl, rfl, rfl⟩, ⟨Same.refl _, trivial⟩, reps_cons.mpr ⟨_, _, rfl, rep_arr.mpr ⟨a, ns.map V.int, rfl, hS, reps_ints.mpr rfl⟩, reps_nil.mpr rfl⟩, fun _ _ v _ _ r => rep_bl.mp r⟩

set_option maxHeartbeats 0
section
open PyProof.Rows
/-! ### the head: the run of the top, the facts -/
abbrev R : PySem.W.OpenRow := PySem.W.OpenLaw.row PySem.Challenge.rw_crosswalls_k74_ways_of_closed_floors
abbrev hk : PySem.W.Hook := hookR 100 737 fa fn fx
def ob (s : PySem.W.SharedT) : Bool × He.AlD := obsRG 100 737 fa fn fx (HandSHeadRun.getT s)
theorem ob_eq (s : PySem.W.SharedT) : ob s = hk.obs s.abs := obsRG_eq (HandSHeadRun.getT_eq s)
def nm0 : List PySem.Str := ["_wall", "FloorError", "InvalidPlan", "InvalidKind", "InvalidWay", "SameKind", "OtherPlan", "TooLong", "TooMany", "BadTables", "InvalidTable", "NotExchanged", "stepped", "joined", "MOST_KINDS", "MOST_LETTERS", "LETTERS", "is_integer", "is_list", "is_kind"]
def nm1 : List PySem.Str := ["need_kind", "need_way", "need_same", "Room", "are_letters", "ascending", "checked_pairs", "same_kind", "need_few", "Plan", "crossing_table", "is_table_row", "table_rows", "need_entries", "need_exchanged", "found_places", "numbered_rows", "Closed", "short_first", "met_pairs"]
def nm2 : List PySem.Str := ["following_pairs", "pair_floor", "joint_marks", "merged_row", "_law_begin", "_law_draw", "_law_pick", "_law_scene", "_law_cross", "_law_home", "_law_go", "_law_led", "_law_near", "_law_name", "_law_room", "_law_fit", "_law_doors", "_law_numbered", "_law_lists", "_law_first_ways"]
def nm3 : List PySem.Str := ["_law_by_length"]
def names : List PySem.Str := nm0 ++ nm1 ++ nm2 ++ nm3
theorem facts {P : Program} {w : World} {K : PySem.W.Frag} {h : Heap} {mg : Str → Option Value} {f : Addr} (X : K.In h) (G : h.Ns mainGlobals mg) (hfa : mg ("law" : Str) = some (.ref f)) (c : SaysR fa fn fx K) :
    ∃ fd : FuncData, (∀ (s : Shared) (v : Value), BindsTo s fd ⟨[v], []⟩ [("_law_script", v)]) ∧ ∀ base : Heap, K.In base → base.Ns mainGlobals mg → FnOk P w K mg base CX0 7 f fd ["_law_script"] (spD K rLaw) := by
  obtain ⟨a, b⟩ := Prod.mk.inj c
  have T : Txt K mg := ⟨b, a, h, X, G⟩
  obtain ⟨fd, F⟩ := T.df 37
  have e := hfa.symm.trans (T.gl 37)
  cases e
  have bb := FunD.bindsA (ps := ["_law_script"]) F fun _ _ _ _ _ _ us hl => match us, hl with | [_], _ => rfl
  exact ⟨fd, fun s v => bb s [v] rfl, fun base _ _ => fn_body F sc_law (relF_len fun _ => rfl) (by decide) law_body⟩
theorem run (w : World) : HandSHeadRun.RunEq R (PySem.W.view R.prog [69]) hk ob 20000 names w := by
  intro os
  kernel_rfl
end
end Cw
open PySem PySem.W PySem.Calls PyProof.Rows
theorem PySem.Challenge.cw_crosswalls_k74_ways_of_closed_floors_holds : PySem.Challenge.rw_crosswalls_k74_ways_of_closed_floors.Holds := by
  w_on; o_law
  refine HandSHeadRun.head_any (r := OpenLaw.row PySem.Challenge.rw_crosswalls_k74_ways_of_closed_floors) (q := view (OpenLaw.row PySem.Challenge.rw_crosswalls_k74_ways_of_closed_floors).prog [69]) (H := Cw.hk) (ob := Cw.ob) (M := 20000) (loose := Cw.names) (d := HandSHeadRun.topDef (OpenLaw.row PySem.Challenge.rw_crosswalls_k74_ways_of_closed_floors).prog 69) (kwd := []) Cw.ob_eq
    (by kernel_rfl) (fun s => by kernel_rfl) Cw.run (by kernel_rfl) (by kernel_rfl) (by kernel_rfl) (by rfl) (by first | assumption | decide +kernel) (by decide +kernel) ⟨rfl, rfl, rfl, rfl, rfl, by decide +kernel⟩ ?hw ?hc
  case hw => w_witness2
  case hc =>
    refine L2.walk_ofE (l := PySem.Challenge.rw_crosswalls_k74_ways_of_closed_floors) (n := 63) (k := 7) (x := "_law_script") (CX := L2.CX0) rfl (by decide) (by kernel_rfl) ⟨rfl, by decide, by decide⟩ ?F (fun _ _ _ _ z => z)
    intro w mg fa h Y G hmg0
    obtain ⟨K, KX, c⟩ := Y
    have hmg : mg ("law" : PySem.Str) = some (.ref fa) := by
      have e : (HandSHeadRun.topDef (OpenLaw.row PySem.Challenge.rw_crosswalls_k74_ways_of_closed_floors).prog 69).name = ("law" : PySem.Str) := by kernel_rfl
      rw [← e]
      exact hmg0
    obtain ⟨fd, hb, hF⟩ := Cw.facts (P := (PySem.Challenge.rw_crosswalls_k74_ways_of_closed_floors).prog) (w := w) KX G hmg c
    exact ⟨K, fd, Dl.spD K Cw.rLaw, KX, hb, fun H a ns hl hO hS => Cw.law_start hl hO hS, hF⟩

