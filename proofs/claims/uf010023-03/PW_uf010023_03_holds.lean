import PyProof.Rows.All
import Wide.All
import OpenK.AllK
import KE.KIsAll
import KE.KRevIter
import KE.KSetAt
import OpenK.KItem
import OpenK.Peek
import PyProof.AutoIntOps
import PyProof.AutoListH
import PyProof.Cells
import PyProof.CompFree
import PyProof.EqLayable
import PyProof.ListCopy
import PyProof.ListIndexNeg
import PyProof.ListOps
import PyProof.ListTruth
import PyProof.NeData
import PyProof.NoPylong
import PyProof.NsCount
import PyProof.P3In
import PyProof.P3Statements
import PyProof.PureInt
import PyProof.Rows.StrJoin2
import PyProof.Rows.StrTemp
import PyProof.Rows.TupMore
import PyProof.Rows.TupSub
import PyProof.RulesAssignMore
import PyProof.SliceList
import PyProof.SliceMore
import PyProof.SliceStr
import PyProof.SliceStr2
import PyProof.SliceSyntax
import PyProof.StrBlock2
import PyProof.StrCalls2
import PyProof.StrLawsIn
import PyProof.StrOps
import PyProof.Truth
import PyProof.TupleIter
import PyProof.TupleKey
import PyProof.TupleOfSeq
import PyProof.TupleOps
import Wide.FinOn
import PySem.Challenge.RW_uf010023_03
set_option Elab.async false
section
open PySem
set_option autoImplicit false
set_option linter.unusedVariables false
namespace Mine

abbrev tupO (vs : Array Value) (n : Nat) : Obj := { cls := .type "tuple", data := .seq vs n }
abbrev lstO (vs : Array Value) (n : Nat) : Obj := { cls := .type "list", data := .seq vs n }

set_option genSizeOf false in
set_option genInjectivity false in
inductive V where
  | none
  | bool (b : Bool)
  | int (i : Int)
  | str (s : List Nat)
  | tup (l : List V)
  | lst (l : List V)

set_option genSizeOf false in
set_option genInjectivity false in
inductive O where
  | val (v : V)
  | own (r : List V)
noncomputable def O.frz (o : O) : V := O.rec (fun v => v) (fun r => .lst r.reverse) o
abbrev Loc := List (Option O)
abbrev WS := Addr → Prop

noncomputable def VR (W : WS) (h : Heap) : V → Value → Prop :=
  @V.rec (fun _ => Value → Prop) (fun _ => List Value → Prop)
    (fun v' => v' = .none) (fun b v' => v' = .bool b) (fun i v' => ∃ t, v' = .int i t)
    (fun s v' => ∃ t, v' = .str ⟨s.toArray⟩ t ∧ PyData.strOk ⟨s.toArray⟩ = true ∧ s.length ≤ sizeLine)
    (fun l ih v' => ∃ a vs n, v' = .ref a ∧ W a ∧ h.get? a = some (tupO vs n) ∧ l.length ≤ sizeLine ∧ ih vs.toList)
    (fun l ih v' => ∃ a vs n, v' = .ref a ∧ W a ∧ h.get? a = some (lstO vs n) ∧ l.length ≤ sizeLine ∧ ih vs.toList)
    (fun l' => l' = []) (fun v l iv il l' => ∃ v' r, l' = v' :: r ∧ iv v' ∧ il r)
noncomputable def VRs (W : WS) (h : Heap) : List V → List Value → Prop :=
  @V.rec_1 (fun _ => Value → Prop) (fun _ => List Value → Prop)
    (fun v' => v' = .none) (fun b v' => v' = .bool b) (fun i v' => ∃ t, v' = .int i t)
    (fun s v' => ∃ t, v' = .str ⟨s.toArray⟩ t ∧ PyData.strOk ⟨s.toArray⟩ = true ∧ s.length ≤ sizeLine)
    (fun l ih v' => ∃ a vs n, v' = .ref a ∧ W a ∧ h.get? a = some (tupO vs n) ∧ l.length ≤ sizeLine ∧ ih vs.toList)
    (fun l ih v' => ∃ a vs n, v' = .ref a ∧ W a ∧ h.get? a = some (lstO vs n) ∧ l.length ≤ sizeLine ∧ ih vs.toList)
    (fun l' => l' = []) (fun v l iv il l' => ∃ v' r, l' = v' :: r ∧ iv v' ∧ il r)

structure Ag (W : WS) (h : Heap) (W' : WS) (h' : Heap) : Prop where
  w : ∀ a, W a → W' a
  k : ∀ a, W a → h'.get? a = h.get? a

section
variable {W W' : WS} {h h' : Heap}
theorem VRs.inv {v : V} {l : List V} {l' : List Value} (r : VRs W h (v :: l) l') : ∃ v' r', l' = v' :: r' ∧ VR W h v v' ∧ VRs W h l r' := r
theorem VRs.cons {v : V} {l : List V} {v' : Value} {l' : List Value} (x : VR W h v v') (r : VRs W h l l') : VRs W h (v :: l) (v' :: l') := ⟨v', l', rfl, x, r⟩
theorem VR.tup {l : List V} {v' : Value} (r : VR W h (.tup l) v') : ∃ a vs n, v' = .ref a ∧ W a ∧ h.get? a = some (tupO vs n) ∧ l.length ≤ sizeLine ∧ VRs W h l vs.toList := r
theorem VR.lst {l : List V} {v' : Value} (r : VR W h (.lst l) v') : ∃ a vs n, v' = .ref a ∧ W a ∧ h.get? a = some (lstO vs n) ∧ l.length ≤ sizeLine ∧ VRs W h l vs.toList := r
theorem VR.ag (g : Ag W h W' h') {v : V} {v' : Value} (r : VR W h v v') : VR W' h' v v' :=
  V.rec (motive_1 := fun v => ∀ v', VR W h v v' → VR W' h' v v') (motive_2 := fun l => ∀ l', VRs W h l l' → VRs W' h' l l')
    (fun _ r => r) (fun _ _ r => r) (fun _ _ r => r) (fun _ _ r => r)
    (fun _ ih _ r => let ⟨a, vs, n, e, w, x, y, z⟩ := VR.tup r; ⟨a, vs, n, e, g.w a w, (g.k a w).trans x, y, ih _ z⟩)
    (fun _ ih _ r => let ⟨a, vs, n, e, w, x, y, z⟩ := VR.lst r; ⟨a, vs, n, e, g.w a w, (g.k a w).trans x, y, ih _ z⟩)
    (fun _ r => r) (fun _ _ iv il _ r => let ⟨v', r, e, x, y⟩ := VRs.inv r; ⟨v', r, e, iv _ x, il _ y⟩) v v' r
theorem VRs.ag (g : Ag W h W' h') : ∀ {l : List V} {l' : List Value}, VRs W h l l' → VRs W' h' l l'
  | [], _, r => r
  | _ :: _, _, r => let ⟨v', r, e, x, y⟩ := VRs.inv r; ⟨v', r, e, VR.ag g x, VRs.ag g y⟩
theorem VRs.length : ∀ {l : List V} {l' : List Value}, VRs W h l l' → l'.length = l.length
  | [], _, e => congrArg List.length e
  | _ :: _, _, r => let ⟨v', r, e, x, y⟩ := VRs.inv r; e ▸ congrArg (· + 1) y.length
theorem VRs.size {l : List V} {vs : Array Value} (r : VRs W h l vs.toList) : vs.size = l.length := by rw [← r.length, Array.length_toList]
theorem VRs.append : ∀ {l m : List V} {l' m' : List Value}, VRs W h l l' → VRs W h m m' → VRs W h (l ++ m) (l' ++ m')
  | [], _, _, _, e, hm => by cases e; exact hm
  | _ :: _, _, _, _, r, hm => by obtain ⟨v', r, rfl, x, y⟩ := VRs.inv r; exact .cons x (y.append hm)
theorem VRs.snoc {l : List V} {l' : List Value} {v : V} {v' : Value} (r : VRs W h l l') (x : VR W h v v') : VRs W h (l ++ [v]) (l' ++ [v']) := r.append ⟨v', [], rfl, x, rfl⟩
theorem VRs.get : ∀ {l : List V} {l' : List Value}, VRs W h l l' → ∀ {i : Nat} {v : V}, l[i]? = some v → ∃ v', l'[i]? = some v' ∧ VR W h v v'
  | [], _, _, _, _, e => nomatch e
  | _ :: _, _, r, 0, _, e => by obtain ⟨v', r, rfl, x, y⟩ := VRs.inv r; cases e; exact ⟨_, rfl, x⟩
  | _ :: _, _, r, i + 1, _, e => by obtain ⟨v', r, rfl, x, y⟩ := VRs.inv r; exact y.get (i := i) e
theorem VRs.set : ∀ {l : List V} {l' : List Value}, VRs W h l l' → ∀ (i : Nat) {v : V} {v' : Value}, VR W h v v' → VRs W h (l.set i v) (l'.set i v')
  | [], _, e, _, _, _, _ => by cases e; exact rfl
  | _ :: _, _, r, 0, _, w, hw => by obtain ⟨v', r, rfl, x, y⟩ := VRs.inv r; exact .cons hw y
  | _ :: _, _, r, i + 1, _, w, hw => by obtain ⟨v', r, rfl, x, y⟩ := VRs.inv r; exact .cons x (y.set i hw)
theorem VRs.take : ∀ {l : List V} {l' : List Value}, VRs W h l l' → ∀ (i : Nat), VRs W h (l.take i) (l'.take i)
  | [], _, e, i => by cases e; rw [List.take_nil, List.take_nil]; exact rfl
  | _ :: _, _, _, 0 => rfl
  | _ :: _, _, r, i + 1 => by obtain ⟨v', r, rfl, x, y⟩ := VRs.inv r; exact .cons x (y.take i)
theorem VRs.drop : ∀ {l : List V} {l' : List Value}, VRs W h l l' → ∀ (i : Nat), VRs W h (l.drop i) (l'.drop i)
  | [], _, e, i => by cases e; rw [List.drop_nil, List.drop_nil]; exact rfl
  | _ :: _, _, r, 0 => r
  | _ :: _, _, r, i + 1 => by obtain ⟨v', r, rfl, x, y⟩ := VRs.inv r; exact y.drop i
end

theorem Ag.refl (W : WS) (h : Heap) : Ag W h W h := ⟨fun _ x => x, fun _ _ => rfl⟩
theorem Ag.trans {W W' W'' : WS} {h h' h'' : Heap} (x : Ag W h W' h') (y : Ag W' h' W'' h'') : Ag W h W'' h'' := ⟨fun a q => y.w a (x.w a q), fun a q => (y.k a (x.w a q)).trans (x.k a q)⟩

abbrev Tbl := List (Str × Nat)
structure FI where
  names : List (Str × NameKind)
  tbl : Tbl

structure Cx where
  K : PySem.W.Frag
  h : Heap
  os : OsState
  prog : Program
  w : World
  mg : Str → Option Value
  mb : Str → Option Value
noncomputable abbrev Cx.M (C : Cx) : Model := model C.prog C.w

structure FC where
  C : Cx
  A : Around
  env : Env
  fi : FI
  pin : Addr → Option Obj
  W0 : WS
  cm : Bool

def Mut (X : FC) (φ : Nat → List Addr) (a : Addr) : Prop := a = X.env.locals ∨ (X.cm = true ∧ ∃ x, X.env.cells.lookup x = some a) ∨ ∃ i, a ∈ φ i

def Val (env : Env) (h : Heap) (x : Str) (v : Value) : Prop :=
  (env.kindOf x = some .local ∧ ∃ m, h.Ns env.locals m ∧ m x = some v) ∨
  ((env.kindOf x = some .cell ∨ env.kindOf x = some .free) ∧ ∃ c, env.cells.lookup x = some c ∧ h.IsCell c (some v))

def OwnAt (W : WS) (h : Heap) (a : Addr) (r : List V) : Prop := ∃ vs n, h.get? a = some (lstO vs n) ∧ VRs W h r.reverse vs.toList ∧ r.length ≤ sizeLine
noncomputable def OR (W : WS) (h : Heap) (p : List Addr) (o : O) (v' : Value) : Prop :=
  O.rec (fun v => p = [] ∧ VR W h v v') (fun r => ∃ a, p = [a] ∧ v' = .ref a ∧ OwnAt W h a r) o

structure F0 (X : FC) (W : WS) (φ : Nat → List Addr) (h : Heap) : Prop where
  pin : ∀ a o, X.pin a = some o → h.get? a = some o
  mu : ∀ a, Mut X φ a → X.pin a = none ∧ ¬ W a
  wf : ∀ a, W a → ∃ o, h.get? a = some o
  w0 : ∀ a o, X.pin a = some o → W a → X.W0 a
  dis : ∀ i j a, a ∈ φ i → a ∈ φ j → i = j
  ns : ∃ o es ep, h.get? X.env.locals = some o ∧ o.data = .dict es ep ∧ StrKeys es
  cells : ∀ x c, X.env.cells.lookup x = some c → ∃ o v, h.get? c = some o ∧ o.data = .cell v
def LR (X : FC) (W : WS) (φ : Nat → List Addr) (h : Heap) (ρ : Loc) : Prop :=
  ∀ x i, X.fi.tbl.lookup x = some i → ∀ o, ρ[i]? = some (some o) → X.env.kindOf x ≠ none → ∃ v', Val X.env h x v' ∧ OR W h (φ i) o v'
structure At (X : FC) (W : WS) (φ : Nat → List Addr) (s : Shared) (ρ : Loc) : Prop where
  gens : s.gens = #[]
  os : s.os = X.C.os
  f : F0 X W φ s.heap
  lr : LR X W φ s.heap ρ
  ow : ∀ i a, a ∈ φ i → ∃ vs n, s.heap.get? a = some (lstO vs n)

structure Grow (W : WS) (h : Heap) (W' : WS) (h' : Heap) : Prop where
  k : ∀ a o, h.get? a = some o → h'.get? a = some o
  w : ∀ a, W a → W' a
  wf : ∀ a, W' a → ∃ o, h'.get? a = some o
  nw : ∀ a o, h.get? a = some o → W' a → W a

section
variable {X : FC} {W W' W'' : WS} {φ : Nat → List Addr} {h h' h'' : Heap} {s : Shared} {ρ : Loc}
theorem Grow.ag (g : Grow W h W' h') (wf : ∀ a, W a → ∃ o, h.get? a = some o) : Ag W h W' h' :=
  ⟨g.w, fun a q => (wf a q).elim fun o e => (g.k a o e).trans e.symm⟩
theorem Grow.trans (g : Grow W h W' h') (g' : Grow W' h' W'' h'') : Grow W h W'' h'' :=
  ⟨fun a o e => g'.k a o (g.k a o e), fun a q => g'.w a (g.w a q), g'.wf, fun a o e q => g.nw a o e (g'.nw a o (g.k a o e) q)⟩
theorem Val.grow {env : Env} {x : Str} {v : Value} (k : ∀ a o, h.get? a = some o → h'.get? a = some o) (r : Val env h x v) : Val env h' x v := by
  obtain ⟨q, m, ⟨o, es, ep, e, z⟩, hm⟩ | ⟨q, c, hc, o, e, z⟩ := r
  · exact .inl ⟨q, m, ⟨o, es, ep, k _ _ e, z⟩, hm⟩
  · exact .inr ⟨q, c, hc, o, k _ _ e, z⟩
theorem OwnAt.ag {a : Addr} {r : List V} (g : Ag W h W' h') (e : h'.get? a = h.get? a) (x : OwnAt W h a r) : OwnAt W' h' a r := by
  obtain ⟨vs, n, y, z, t⟩ := x; exact ⟨vs, n, e.trans y, z.ag g, t⟩
theorem OR.ag {p : List Addr} {o : O} {v' : Value} (g : Ag W h W' h') (e : ∀ a, a ∈ p → h'.get? a = h.get? a) (x : OR W h p o v') : OR W' h' p o v' := by
  cases o with
  | val v => exact ⟨x.1, VR.ag g x.2⟩
  | own r => obtain ⟨a, rfl, y, z⟩ := x; exact ⟨a, rfl, y, OwnAt.ag g (e a List.mem_cons_self) z⟩
theorem F0.grow (F : F0 X W φ h) (ow : ∀ i a, a ∈ φ i → ∃ vs n, h.get? a = some (lstO vs n)) (g : Grow W h W' h') : F0 X W' φ h' where
  pin := fun a o e => g.k a o (F.pin a o e)
  mu := fun a q => ⟨(F.mu a q).1, fun w => (F.mu a q).2 (by
      rcases q with q | ⟨q1, x, q⟩ | ⟨i, q⟩
      · obtain ⟨o, _, _, e, _⟩ := F.ns; exact g.nw a o (q ▸ e) w
      · obtain ⟨o, _, e, _⟩ := F.cells x a q; exact g.nw a o e w
      · obtain ⟨_, _, e⟩ := ow i a q; exact g.nw a _ e w)⟩
  wf := g.wf
  w0 := fun a o e q => F.w0 a o e (g.nw a o (F.pin a o e) q)
  dis := F.dis
  ns := by obtain ⟨o, es, ep, e, z⟩ := F.ns; exact ⟨o, es, ep, g.k _ _ e, z⟩
  cells := fun x c hc => by obtain ⟨o, v, e, z⟩ := F.cells x c hc; exact ⟨o, v, g.k _ _ e, z⟩
theorem At.grow (F : At X W φ s ρ) {t : Nat} (g : Grow W s.heap W' h') : At X W' φ { s with heap := h', toks := t } ρ where
  gens := F.gens
  os := F.os
  f := F.f.grow F.ow g
  lr := fun x i hx o ho hk => by
    obtain ⟨v', a, b⟩ := F.lr x i hx o ho hk
    exact ⟨v', a.grow g.k, b.ag (g.ag F.f.wf) fun a q => by obtain ⟨_, _, e⟩ := F.ow i a q; exact (g.k a _ e).trans e.symm⟩
  ow := fun i a q => by obtain ⟨vs, n, e⟩ := F.ow i a q; exact ⟨vs, n, g.k _ _ e⟩
theorem At.toks (F : At X W φ s ρ) (t : Nat) : At X W φ { s with toks := t } ρ := ⟨F.gens, F.os, F.f, F.lr, F.ow⟩

theorem F0.turn (F : F0 X W φ h) {a : Addr} (hm : Mut X φ a) (hs : Heap.SameBut a h h') : Ag W h W h' ∧ (∀ b o, X.pin b = some o → h'.get? b = some o) ∧ (∀ b, W b → ∃ o, h'.get? b = some o) := by
  have hk : ∀ b, b ≠ a → h'.get? b = h.get? b := hs.2
  have wa := (F.mu a hm).2
  have ag : Ag W h W h' := ⟨fun _ q => q, fun b q => hk b fun e => wa (e ▸ q)⟩
  refine ⟨ag, fun b o e => (hk b fun q => ?_).trans (F.pin b o e), fun b q => ?_⟩
  · have := (F.mu a hm).1; rw [← q, e] at this; cases this
  · obtain ⟨o, e⟩ := F.wf b q; exact ⟨o, (ag.k b q).trans e⟩
end
end Mine
end

section
open PySem
set_option autoImplicit false
set_option linter.unusedVariables false
namespace Mine

def RO (X : FC) (W : WS) (φ : Nat → List Addr) (h : Heap) (o : O) (v' : Value) : Prop := ∃ p, OR W h p o v' ∧ ∀ a, a ∈ p → ¬ W a ∧ ¬ Mut X φ a ∧ X.pin a = none

def upd (φ : Nat → List Addr) (i : Nat) (p : List Addr) : Nat → List Addr := fun j => if j = i then p else φ j
theorem upd_same (φ : Nat → List Addr) (i : Nat) (p : List Addr) : upd φ i p i = p := if_pos rfl
theorem upd_ne (φ : Nat → List Addr) {i j : Nat} (p : List Addr) (h : j ≠ i) : upd φ i p j = φ j := if_neg h

theorem set_get {ρ : Loc} {i j : Nat} {o o' : O} (e : (ρ.set i (some o))[j]? = some (some o')) : (j = i ∧ o' = o) ∨ (j ≠ i ∧ ρ[j]? = some (some o')) := by
  by_cases q : j = i
  · subst q
    rw [List.getElem?_set] at e
    split at e
    · split at e
      · cases e; exact .inl ⟨rfl, rfl⟩
      · cases e
    · rename_i q; exact absurd rfl q
  · exact .inr ⟨q, by rwa [List.getElem?_set_ne (Ne.symm q)] at e⟩

section
variable {X : FC} {W W' : WS} {φ : Nat → List Addr} {h h' : Heap} {s : Shared} {ρ : Loc}

theorem RO.val {v : V} {v' : Value} (r : VR W h v v') : RO X W φ h (.val v) v' := ⟨[], ⟨rfl, r⟩, fun _ q => nomatch q⟩
theorem Ag.more (W : WS) (h : Heap) (a : Addr) : Ag W h (fun b => W b ∨ b = a) h := ⟨fun _ q => .inl q, fun _ _ => rfl⟩
theorem OwnAt.frz {a : Addr} {r : List V} (x : OwnAt W h a r) : VR (fun b => W b ∨ b = a) h (.lst r.reverse) (.ref a) := by
  obtain ⟨vs, n, y, z, t⟩ := x; exact ⟨a, vs, n, rfl, .inr rfl, y, by rwa [List.length_reverse], VRs.ag (.more W h a) z⟩
theorem At.fix (F : At X W φ s ρ) {a : Addr} (hp : X.pin a = none) (hm : ¬ Mut X φ a) (he : ∃ o, s.heap.get? a = some o) : At X (fun b => W b ∨ b = a) φ s ρ where
  gens := F.gens
  os := F.os
  f := { F.f with
    mu := fun b q => ⟨(F.f.mu b q).1, fun w => w.elim (F.f.mu b q).2 fun e => hm (e ▸ q)⟩
    wf := fun b q => q.elim (F.f.wf b) fun e => e ▸ he
    w0 := fun b o e q => q.elim (F.f.w0 b o e) fun z => by rw [z, hp] at e; cases e }
  lr := fun x i hx o ho hk => by obtain ⟨v', a, b⟩ := F.lr x i hx o ho hk; exact ⟨v', a, b.ag (.more ..) fun _ _ => rfl⟩
  ow := F.ow
theorem At.frz (F : At X W φ s ρ) {o : O} {v' : Value} (r : RO X W φ s.heap o v') : ∃ W', At X W' φ s ρ ∧ Ag W s.heap W' s.heap ∧ VR W' s.heap o.frz v' := by
  obtain ⟨p, x, y⟩ := r
  cases o with
  | val v => exact ⟨W, F, .refl .., x.2⟩
  | own r =>
    obtain ⟨a, rfl, rfl, z⟩ := x
    obtain ⟨_, hm, hp⟩ := y a List.mem_cons_self
    refine ⟨_, F.fix hp hm ?_, .more W s.heap a, z.frz⟩
    obtain ⟨vs, n, e, _⟩ := z; exact ⟨_, e⟩
theorem Mut.less {i : Nat} {a : Addr} (q : Mut X (upd φ i []) a) : Mut X φ a := by
  rcases q with q | q | ⟨j, q⟩
  · exact .inl q
  · exact .inr (.inl q)
  · refine .inr (.inr ⟨j, ?_⟩)
    unfold upd at q; split at q
    · cases q
    · exact q
theorem At.drop (F : At X W φ s ρ) (i : Nat) {ρ' : Loc} (hρ : ∀ j o, j ≠ i → ρ'[j]? = some (some o) → ρ[j]? = some (some o)) (hi : ∀ x, X.fi.tbl.lookup x = some i → ∀ o, ρ'[i]? = some (some o) → X.env.kindOf x ≠ none → ∃ v', Val X.env s.heap x v' ∧ OR W s.heap [] o v') : At X W (upd φ i []) s ρ' where
  gens := F.gens
  os := F.os
  f := { F.f with
    mu := fun b q => F.f.mu b q.less
    dis := fun j k a p q => by
      by_cases ej : j = i
      · rw [ej, upd_same] at p; cases p
      · by_cases ek : k = i
        · rw [ek, upd_same] at q; cases q
        · rw [upd_ne _ _ ej] at p; rw [upd_ne _ _ ek] at q; exact F.f.dis j k a p q }
  lr := fun x j hx o ho hk => by
    by_cases ej : j = i
    · subst ej; rw [upd_same]; exact hi x hx o ho hk
    · rw [upd_ne _ _ ej]; exact F.lr x j hx o (hρ j o ej ho) hk
  ow := fun j a q => by
    by_cases ej : j = i
    · rw [ej, upd_same] at q; cases q
    · rw [upd_ne _ _ ej] at q; exact F.ow j a q

theorem F0.notOwn (F : F0 X W φ h) {a : Addr} {vs : Array Value} {n : Nat} (e : h.get? a = some (lstO vs n)) : a ≠ X.env.locals ∧ ∀ x, X.env.cells.lookup x ≠ some a := by
  refine ⟨fun q => ?_, fun x q => ?_⟩
  · obtain ⟨o, _, _, z, t, _⟩ := F.ns; rw [← q, e] at z; cases z; cases t
  · obtain ⟨o, _, z, t⟩ := F.cells x a q; rw [e] at z; cases z; cases t

theorem At.frzVar (F : At X W φ s ρ) {x : Str} {i : Nat} {r : List V} {v' : Value} (ti : ∀ y, X.fi.tbl.lookup y = some i → y = x) (hv : Val X.env s.heap x v') (z : OR W s.heap (φ i) (.own r) v') :
    ∃ W', At X W' (upd φ i []) s (ρ.set i (some (.val (.lst r.reverse)))) ∧ Ag W s.heap W' s.heap ∧ VR W' s.heap (.lst r.reverse) v' := by
  obtain ⟨a, hp, rfl, z⟩ := z
  have hmem : a ∈ φ i := hp ▸ List.mem_cons_self
  have hmu := F.f.mu a (.inr (.inr ⟨i, hmem⟩))
  obtain ⟨vs, n, he, _⟩ := id z
  have hno := F.f.notOwn he
  have F1 : At X W (upd φ i []) s (ρ.set i none) := F.drop i (fun j o q w => by rwa [List.getElem?_set_ne (Ne.symm q)] at w) fun y hy o w => by
    rw [List.getElem?_set] at w
    split at w
    · split at w <;> cases w
    · rename_i q; exact absurd rfl q
  have F2 := F1.fix hmu.1 (fun q => by
    rcases q with q | ⟨_, y, q⟩ | ⟨j, q⟩
    · exact hno.1 q
    · exact hno.2 y q
    · by_cases ej : j = i
      · rw [ej, upd_same] at q; cases q
      · rw [upd_ne _ _ ej] at q; exact ej (F.f.dis j i a q hmem)) ⟨_, he⟩
  refine ⟨_, ⟨F2.gens, F2.os, F2.f, fun y j hy o w hk => ?_, F2.ow⟩, .more W s.heap a, z.frz⟩
  rcases set_get w with ⟨rfl, rfl⟩ | ⟨q, w⟩
  · cases ti y hy; exact ⟨_, hv, by rw [upd_same]; exact ⟨rfl, z.frz⟩⟩
  · exact F2.lr y j hy o (by rwa [List.getElem?_set_ne (Ne.symm q)]) hk

theorem At.store (F : At X W φ s ρ) {x : Str} {i : Nat} {o : O} {v' : Value} {a : Addr} {t : Nat} (ti : ∀ y, X.fi.tbl.lookup y = some i → y = x) (hx : X.fi.tbl.lookup x = some i) {p : List Addr} (r : OR W s.heap p o v') (hp : ∀ a, a ∈ p → ¬ W a ∧ ¬ Mut X φ a ∧ X.pin a = none)
    (ha : a = X.env.locals ∨ (X.cm = true ∧ ∃ y, X.env.cells.lookup y = some a)) (hs : Heap.SameBut a s.heap h') (hv : Val X.env h' x v') (ho : ∀ y w, y ≠ x → Val X.env s.heap y w → Val X.env h' y w)
    (ns : ∃ o es ep, h'.get? X.env.locals = some o ∧ o.data = .dict es ep ∧ StrKeys es) (cells : ∀ x c, X.env.cells.lookup x = some c → ∃ o v, h'.get? c = some o ∧ o.data = .cell v) :
    At X W (upd φ i p) { s with heap := h', toks := t } (ρ.set i (some o)) ∧ Ag W s.heap W h' := by
  have hm : Mut X φ a := ha.elim .inl fun q => .inr (.inl q)
  obtain ⟨ag, pin, wf⟩ := F.f.turn hm hs
  have hl : ∀ b vs n, s.heap.get? b = some (lstO vs n) → h'.get? b = s.heap.get? b := fun b vs n e => hs.2 b fun q => by
    have := F.f.notOwn e
    rcases ha with z | ⟨_, y, z⟩
    · exact this.1 (q.trans z)
    · exact this.2 y (q ▸ z)
  have hl' : ∀ b, b ∈ p → ∃ vs n, s.heap.get? b = some (lstO vs n) := fun b q => by
    cases o with
    | val v => rw [r.1] at q; cases q
    | own r' => obtain ⟨c, rfl, _, vs, n, z, _⟩ := r; cases List.mem_singleton.mp q; exact ⟨vs, n, z⟩
  have case : ∀ j b, b ∈ upd φ i p j → (j = i ∧ b ∈ p) ∨ (j ≠ i ∧ b ∈ φ j) := fun j b q => by
    by_cases ej : j = i
    · rw [ej, upd_same] at q; exact .inl ⟨ej, q⟩
    · rw [upd_ne _ _ ej] at q; exact .inr ⟨ej, q⟩
  have ow : ∀ j b, b ∈ upd φ i p j → ∃ vs n, s.heap.get? b = some (lstO vs n) := fun j b q => (case j b q).elim (fun z => hl' b z.2) fun z => F.ow j b z.2
  refine ⟨⟨F.gens, F.os, ⟨pin, fun b q => ?_, wf, F.f.w0, fun j k b q q' => ?_, ns, cells⟩, fun y j hy o' w hk => ?_, fun j b q => ?_⟩, ag⟩
  · rcases q with q | q | ⟨j, q⟩
    · exact F.f.mu b (.inl q)
    · exact F.f.mu b (.inr (.inl q))
    · rcases case j b q with ⟨_, q⟩ | ⟨_, q⟩
      · exact ⟨(hp b q).2.2, (hp b q).1⟩
      · exact F.f.mu b (.inr (.inr ⟨j, q⟩))
  · rcases case j b q with ⟨e, q⟩ | ⟨e, q⟩ <;> rcases case k b q' with ⟨e', q'⟩ | ⟨e', q'⟩
    · exact e.trans e'.symm
    · exact absurd (.inr (.inr ⟨k, q'⟩)) (hp b q).2.1
    · exact absurd (.inr (.inr ⟨j, q⟩)) (hp b q').2.1
    · exact F.f.dis j k b q q'
  · rcases set_get w with ⟨rfl, rfl⟩ | ⟨q, w⟩
    · cases ti y hy
      refine ⟨v', hv, ?_⟩
      rw [upd_same]
      exact r.ag ag fun b q => by obtain ⟨_, _, e⟩ := hl' b q; exact hl b _ _ e
    · obtain ⟨w', b1, b2⟩ := F.lr y j hy o' w hk
      refine ⟨w', ho y w' (fun e => q ?_) b1, ?_⟩
      · rw [e, hx] at hy; exact (Option.some.inj hy).symm
      · rw [upd_ne _ _ q]
        exact b2.ag ag fun b z => by obtain ⟨_, _, e⟩ := F.ow j b z; exact hl b _ _ e
  · obtain ⟨vs, n, e⟩ := ow j b q; exact ⟨vs, n, (hl b vs n e).trans e⟩

theorem At.turn (F : At X W φ s ρ) {x : Str} {i : Nat} {a : Addr} {t : Nat} {r : List V} {vs : Array Value} {n : Nat} (ti : ∀ y, X.fi.tbl.lookup y = some i → y = x) (hi : φ i = [a]) (hs : Heap.SameBut a s.heap h') (hv : Val X.env s.heap x (.ref a))
    (he : h'.get? a = some (lstO vs n)) (hr : VRs W s.heap r.reverse vs.toList) (hz : r.length ≤ sizeLine) : At X W φ { s with heap := h', toks := t } (ρ.set i (some (.own r))) ∧ Ag W s.heap W h' := by
  have hmem : a ∈ φ i := hi ▸ List.mem_cons_self
  obtain ⟨ag, pin, wf⟩ := F.f.turn (.inr (.inr ⟨i, hmem⟩)) hs
  obtain ⟨vs0, n0, he0⟩ := F.ow i a hmem
  have hno := F.f.notOwn he0
  have hL : h'.get? X.env.locals = s.heap.get? X.env.locals := hs.2 _ (Ne.symm hno.1)
  have hC : ∀ y c, X.env.cells.lookup y = some c → h'.get? c = s.heap.get? c := fun y c q => hs.2 c fun e => hno.2 y (e ▸ q)
  have val : ∀ y w, Val X.env s.heap y w → Val X.env h' y w := fun y w q => by
    obtain ⟨q, m, ⟨o, es, ep, e, z⟩, hm⟩ | ⟨q, c, hc, o, e, z⟩ := q
    · exact .inl ⟨q, m, ⟨o, es, ep, hL.trans e, z⟩, hm⟩
    · exact .inr ⟨q, c, hc, o, (hC y c hc).trans e, z⟩
  refine ⟨⟨F.gens, F.os, { F.f with pin := pin, wf := wf, ns := ?_, cells := fun y c q => ?_ }, fun y j hy o w hk => ?_, fun j b q => ?_⟩, ag⟩
  · obtain ⟨o, es, ep, e, z⟩ := F.f.ns; exact ⟨o, es, ep, hL.trans e, z⟩
  · obtain ⟨o, v, e, z⟩ := F.f.cells y c q; exact ⟨o, v, (hC y c q).trans e, z⟩
  · rcases set_get w with ⟨rfl, rfl⟩ | ⟨q, w⟩
    · cases ti y hy
      exact ⟨_, val _ _ hv, a, hi, rfl, vs, n, he, hr.ag ag, hz⟩
    · obtain ⟨w', b1, b2⟩ := F.lr y j hy o w hk
      exact ⟨w', val _ _ b1, b2.ag ag fun b z => hs.2 b fun e => q (F.f.dis j i a (e ▸ z) hmem)⟩
  · by_cases e : b = a
    · subst e; exact ⟨vs, n, he⟩
    · obtain ⟨vs, n, z⟩ := F.ow j b q; exact ⟨vs, n, (hs.2 b e).trans z⟩
end
end Mine
end

section
open PySem
set_option autoImplicit false
set_option linter.unusedVariables false
namespace Mine
open PySem.W (Frag kitOne keepIn Looks)

inductive Ty | tuple | str | int | bool | list deriving DecidableEq
inductive Kd | none | bool | int | str | tup | list deriving DecidableEq
noncomputable def Kd.v (k : Kd) : Value := .type (Kd.rec "NoneType" "bool" "int" "str" "tuple" "list" k)
noncomputable def Ty.n (t : Ty) : String := Ty.rec "tuple" "str" "int" "bool" "list" t
noncomputable def isiK (k : Kd) (t : Ty) : Bool := Kd.rec false (Ty.rec false false true true false t) (Ty.rec false false true false false t) (Ty.rec false true false false false t) (Ty.rec true false false false false t) (Ty.rec false false false false true t) k

structure FD where
  ps : List Str
  fi : FI
  st : List Stmt
structure Gl where
  fn : List (Str × Addr)
  fd : List (Addr × FD)
  bn : List Str
  ty : List Ty

def deep : Nat := 2000
structure FnOk (C : Cx) (a : Addr) (f : FD) (o : Obj) (fd : FuncData) : Prop where
  at_ : C.h.get? a = some o
  dat : o.data = .func fd
  body : fd.body = .stmts f.st
  clo : fd.closure = []
  gl : fd.globals = mainGlobals
  bi : fd.builtins = builtinsNs
  co : fd.scope.isCoroutine = false
  gen : fd.scope.isGenerator = false
  kind : fd.scope.kind = .function
  rec_ : C.h.CodeRec fd.code fd.qualname
  bind : ∀ vals : List Value, vals.length = f.ps.length → bindArgs fd ⟨vals, []⟩ = pure (f.ps.zip vals)
  nodup : f.ps.Nodup
  names : fd.scope.names = f.fi.names
  own : ∀ p, p ∈ f.ps → f.fi.names.lookup p = some .local ∨ f.fi.names.lookup p = some .cell
  free : ∀ x, x ∈ f.fi.names → x.2 ≠ .free
  at0 : ∀ i p, f.ps[i]? = some p → f.fi.tbl.lookup p = some i
  inj : ∀ y z j, f.fi.tbl.lookup y = some j → f.fi.tbl.lookup z = some j → y = z

structure GOk (G : Gl) (C : Cx) : Prop where
  X : C.K.In C.h
  g : C.h.Ns mainGlobals C.mg
  b : C.h.Ns builtinsNs C.mb
  bi : ∀ x : Str, x ≠ "__name__" → C.mb x = bootBuiltins x
  nolimit : C.h.NoLimit
  isi : ∀ k t, t ∈ G.ty → kitOne C.K k.v (.type t.n) = some (isiK k t)
  bn : ∀ x, x ∈ G.bn → C.mg x = none ∧ x ≠ "__name__"
  fn : ∀ x a, G.fn.lookup x = some a → C.mg x = some (.ref a) ∧ keepIn C.K (.ref a) = true
  fd : ∀ a f, G.fd.lookup a = some f → ∃ o fd, FnOk C a f o fd

structure FS (G : Gl) (d : Nat) (X : FC) : Prop where
  g : GOk G X.C
  base : ∀ a o, X.C.h.get? a = some o → X.pin a = some o
  hd : X.A.handled = none
  dp : X.A.depth + 2 * d + 10 ≤ recursionLimit
  un : X.A.units + 20 * d + deep + 100 < cLine
  fn : X.env.scope.kind = .function
  gl : X.env.globals = mainGlobals
  bi : X.env.builtins = builtinsNs
  nm : X.env.scope.names = X.fi.names
  cel : ∀ x, X.fi.names.lookup x = some .cell ∨ X.fi.names.lookup x = some .free → ∃ c, X.env.cells.lookup x = some c
  inj : ∀ x y c, X.env.cells.lookup x = some c → X.env.cells.lookup y = some c → x = y
  ti : ∀ y z j, X.fi.tbl.lookup y = some j → X.fi.tbl.lookup z = some j → y = z

def FI.isVar (fi : FI) (x : Str) (i : Nat) : Bool := fi.tbl.lookup x == some i && (fi.names.lookup x == some .local || fi.names.lookup x == some .cell || fi.names.lookup x == some .free) && x != "__debug__" && x != "__classdict__"
def FI.isOwn (fi : FI) (x : Str) (i : Nat) : Bool := fi.tbl.lookup x == some i && (fi.names.lookup x == some .local || fi.names.lookup x == some .cell)
def FI.isGlob (fi : FI) (x : Str) : Bool := fi.names.lookup x == some .globalImplicit && x != "__debug__"
def isBi (G : Gl) (fi : FI) (x : Str) : Bool := fi.isGlob x && G.bn.contains x

section
variable {G : Gl} {d : Nat} {X : FC} {W : WS} {φ : Nat → List Addr} {s : Shared} {ρ : Loc} {E : Value → Shared → Prop}

theorem FS.kind (S : FS G d X) (x : Str) : X.env.kindOf x = X.fi.names.lookup x := by unfold Env.kindOf; rw [S.nm]
theorem At.keep (F : At X W φ s ρ) (S : FS G d X) : ∀ a o, X.C.h.get? a = some o → s.heap.get? a = some o := fun a o e => F.f.pin a o (S.base a o e)
theorem At.In (F : At X W φ s ρ) (S : FS G d X) : X.C.K.In s.heap := S.g.X.keeps (F.keep S)

theorem load_ok {x : Str} {i : Nat} {p : Pos} {o : O} {Q : Value → Shared → Prop} (S : FS G d X) (F : At X W φ s ρ) (hx : X.fi.isVar x i = true) (e : ρ[i]? = some (some o))
    (h : ∀ v', X.fi.tbl.lookup x = some i → X.env.kindOf x ≠ none → Val X.env s.heap x v' → OR W s.heap (φ i) o v' → Q v' s) : wpAny X.C.M X.A (eval (.Name x p) X.env) Q E s := by
  simp only [FI.isVar, Bool.and_eq_true, beq_iff_eq, bne_iff_ne, ne_eq, Bool.or_eq_true] at hx
  obtain ⟨⟨⟨h1, h2⟩, h3⟩, h4⟩ := hx
  have hk : X.env.kindOf x ≠ none := by rw [S.kind]; rintro q; rcases h2 with (z | z) | z <;> rw [q] at z <;> cases z
  obtain ⟨v', a, b⟩ := F.lr x i h1 o e hk
  refine wpAny_Name ?_ (by simpa using h3)
  have fin := h v' h1 hk a b
  rcases a with ⟨hk, m, hn, hm⟩ | ⟨hk | hk, c, hc, hv⟩
  · exact wpAny_loadName_local S.fn hk hn hm fin
  · exact wpAny_loadName_cell S.fn hk hc hv fin
  · exact wpAny_loadName_free S.fn hk hc hv fin (by simpa using h4)

theorem store_ok {x : Str} {i : Nat} {o : O} {v' : Value} {Q : Unit → Shared → Prop} (S : FS G d X) (hcm : X.fi.names.lookup x = some .local ∨ X.cm = true) (F : At X W φ s ρ) (r : RO X W φ s.heap o v') (hx : X.fi.isOwn x i = true)
    (h : ∀ φ' s', At X W φ' s' (ρ.set i (some o)) → Ag W s.heap W s'.heap → Q () s') : wpAny X.C.M X.A (storeName X.env x v') Q E s := by
  simp only [FI.isOwn, Bool.and_eq_true, beq_iff_eq, Bool.or_eq_true] at hx
  obtain ⟨h1, h2⟩ := hx
  obtain ⟨p, r, hp⟩ := r
  have ti : ∀ y, X.fi.tbl.lookup y = some i → y = x := fun y hy => S.ti y x i hy h1
  rcases h2 with h2 | h2
  · have hk := (S.kind x).trans h2
    obtain ⟨o1, es, ep, ho, hd, hs⟩ := F.f.ns
    have hn : s.heap.Ns X.env.locals (fun y => nsFind es y) := ⟨o1, es, ep, ho, hd, hs, fun _ => rfl⟩
    refine wpAny_storeName_local hk hn (fun h' hn' hs' => ?_) (by rw [S.fn]; rfl)
    have hC : ∀ y c, X.env.cells.lookup y = some c → c ≠ X.env.locals := fun y c hc q => by
      obtain ⟨o2, _, e2, e3⟩ := F.f.cells y c hc; rw [q, ho] at e2; cases e2; rw [hd] at e3; cases e3
    obtain ⟨A, B⟩ := F.store (t := s.toks + 1) ti h1 r hp (.inl rfl) hs' (.inl ⟨hk, _, hn', by simp⟩) (fun y w hy q => by
      rcases q with ⟨a1, m, a2, a3⟩ | ⟨a1, c, a2, a3⟩
      · refine .inl ⟨a1, _, hn', ?_⟩
        rw [if_neg hy]
        obtain ⟨o2, es2, ep2, ho2, hd2, _, hf2⟩ := a2
        rw [ho] at ho2; cases ho2; rw [hd] at hd2; cases hd2
        exact (hf2 y).trans a3
      · exact .inr ⟨a1, c, a2, a3.sameBut hs' (hC y c a2)⟩)
      (by obtain ⟨o2, es2, ep2, a, b, c, _⟩ := hn'; exact ⟨o2, es2, ep2, a, b, c⟩) (fun y c hc => by
        obtain ⟨o2, v2, a, b⟩ := F.f.cells y c hc; exact ⟨o2, v2, (hs'.2 c (hC y c hc)).trans a, b⟩)
    exact h _ _ A B
  · have hcm : X.cm = true := hcm.resolve_left fun q => by rw [h2] at q; cases q
    have hk := (S.kind x).trans h2
    obtain ⟨c, hc⟩ := S.cel x (.inl h2)
    obtain ⟨o1, w, ho, hd⟩ := F.f.cells x c hc
    refine wpAny_storeName_cell S.fn hk hc ⟨o1, ho, hd⟩ fun h' hc' hs' => ?_
    have hL : X.env.locals ≠ c := fun q => by
      obtain ⟨o2, _, _, e2, e3, _⟩ := F.f.ns; rw [q, ho] at e2; cases e2; rw [hd] at e3; cases e3
    obtain ⟨A, B⟩ := F.store (t := s.toks) ti h1 r hp (.inr ⟨hcm, x, hc⟩) hs' (.inr ⟨.inl hk, c, hc, hc'⟩) (fun y w hy q => by
      rcases q with ⟨a1, m, a2, a3⟩ | ⟨a1, c2, a2, a3⟩
      · exact .inl ⟨a1, m, a2.sameBut hs' hL, a3⟩
      · exact .inr ⟨a1, c2, a2, a3.sameBut hs' fun q => hy (S.inj y x c (q ▸ a2) hc)⟩)
      (by obtain ⟨o2, es2, ep2, a, b, c⟩ := F.f.ns; exact ⟨o2, es2, ep2, (hs'.2 _ hL).trans a, b, c⟩) (fun y c2 hc2 => by
        by_cases q : c2 = c
        · subst q; obtain ⟨o2, a, b⟩ := hc'; exact ⟨o2, _, a, b⟩
        · obtain ⟨o2, v2, a, b⟩ := F.f.cells y c2 hc2; exact ⟨o2, v2, (hs'.2 c2 q).trans a, b⟩)
    exact h _ _ A B

theorem glob_ok {x : Str} {p : Pos} {v : Value} {Q : Value → Shared → Prop} (S : FS G d X) (F : At X W φ s ρ) (hx : X.fi.isGlob x = true) (hv : X.C.mg x = some v) (h : Q v s) : wpAny X.C.M X.A (eval (.Name x p) X.env) Q E s := by
  simp only [FI.isGlob, Bool.and_eq_true, beq_iff_eq, bne_iff_ne, ne_eq] at hx
  refine PySem.Calls.Name_function_global S.fn ((S.kind x).trans hx.1) (PySem.Calls.loadGlobal_global (mg := X.C.mg) ?_ hv h) (by simpa using hx.2)
  rw [S.gl]; exact S.g.g.keeps (F.keep S)
theorem bi_ok {x : Str} {p : Pos} {v : Value} {Q : Value → Shared → Prop} (S : FS G d X) (F : At X W φ s ρ) (hx : isBi G X.fi x = true) (hv : bootBuiltins x = some v) (h : Q v s) : wpAny X.C.M X.A (eval (.Name x p) X.env) Q E s := by
  simp only [isBi, FI.isGlob, Bool.and_eq_true, beq_iff_eq, bne_iff_ne, ne_eq, List.contains_iff_mem] at hx
  obtain ⟨⟨h1, h2⟩, h3⟩ := hx
  obtain ⟨h4, h5⟩ := S.g.bn x h3
  refine PySem.Calls.Name_function_global S.fn ((S.kind x).trans h1) (PySem.Calls.loadGlobal_builtin (mg := X.C.mg) (mb := X.C.mb) ?_ h4 ?_ ((S.g.bi x h5).trans hv) h) (by simpa using h2)
  · rw [S.gl]; exact S.g.g.keeps (F.keep S)
  · rw [S.bi]; exact S.g.b.keeps (F.keep S)
end
end Mine
end

section
open PySem
set_option autoImplicit false
set_option linter.unusedVariables false
namespace Mine
open PySem.W (Frag kitOne keepIn Looks)

set_option genSizeOf false in
set_option genInjectivity false in
inductive Fl where
  | next
  | ret (o : O)
set_option genSizeOf false in
set_option genInjectivity false in
inductive Tk where
  | b (b : Bool)
  | r (o : O)
  | l (fl : Fl) (ρ : Loc)
  | vs (l : List V)
structure St where
  ρ : Loc
  tp : List Tk
  ob : List Prop
noncomputable def All (l : List Prop) : Prop := @List.rec Prop (fun _ => Prop) True (fun p _ q => p ∧ q) l
theorem All.app : ∀ {l m : List Prop}, All (l ++ m) → All l ∧ All m
  | [], _, h => ⟨trivial, h⟩
  | _ :: _, _, h => ⟨⟨h.1, (All.app h.2).1⟩, (All.app h.2).2⟩

noncomputable def bd {α β : Type} (x : Option (α × St)) (f : α → St → Option (β × St)) : Option (β × St) := x.bind fun p => f p.1 p.2
noncomputable def rt {α : Type} (x : Option (α × List Prop)) (σ : St) : Option (α × St) := x.bind fun p => some (p.1, ⟨σ.ρ, σ.tp, p.2 ++ σ.ob⟩)
noncomputable def pu {α : Type} (x : α) (σ : St) : Option (α × St) := some (x, σ)
noncomputable def slot (ρ : Loc) (i : Nat) : Option O := (ρ[i]?).bind id
theorem slot_some {ρ : Loc} {i : Nat} {o : O} (e : slot ρ i = some o) : ρ[i]? = some (some o) := by
  unfold slot at e; cases q : ρ[i]? with
  | none => rw [q] at e; cases e
  | some x => rw [q] at e; exact congrArg some e

def Ok {α : Type} (ev : St → Option (α × St)) (S : Loc → α → Loc → Prop) : Prop := ∀ σ a σ', ev σ = some (a, σ') → All σ'.ob → All σ.ob ∧ S σ.ρ a σ'.ρ
section
variable {α β : Type} {S : Loc → α → Loc → Prop} {S' : Loc → β → Loc → Prop}
theorem Ok.bd {f : St → Option (α × St)} {g : α → St → Option (β × St)} (hf : Ok f S) {R : α → Loc → β → Loc → Prop} (hg : ∀ a, Ok (g a) (R a)) (k : ∀ ρ a ρ₁ b ρ', S ρ a ρ₁ → R a ρ₁ b ρ' → S' ρ b ρ') : Ok (fun σ => bd (f σ) g) S' := by
  intro σ b σ' e h
  obtain ⟨⟨a, σ₁⟩, e1, e2⟩ := Option.bind_eq_some_iff.mp e
  obtain ⟨h1, h2⟩ := hg a σ₁ b σ' e2 h
  obtain ⟨h3, h4⟩ := hf σ a σ₁ e1 h1
  exact ⟨h3, k _ _ _ _ _ h4 h2⟩
theorem Ok.rt {x : Option (α × List Prop)} (k : ∀ a p ρ, x = some (a, p) → All p → S ρ a ρ) : Ok (rt x) S := by
  intro σ a σ' e h
  obtain ⟨⟨a', p⟩, e1, e2⟩ := Option.bind_eq_some_iff.mp e
  cases e2
  obtain ⟨h1, h2⟩ := All.app h
  exact ⟨h2, k _ p _ e1 h1⟩
theorem Ok.pu {x : α} (k : ∀ ρ, S ρ x ρ) : Ok (pu x) S := fun σ a σ' e h => by cases e; exact ⟨h, k _⟩
theorem Ok.none {f : St → Option (α × St)} (h : ∀ σ, f σ = none) : Ok f S := fun σ a σ' e => by rw [h] at e; cases e
end

structure Gs (W : WS) (s : Shared) (W' : WS) (s' : Shared) : Prop where
  g : Grow W s.heap W' s'.heap
  gens : s'.gens = s.gens
  os : s'.os = s.os
noncomputable def RN (h : Heap) (W' : WS) (h' : Heap) (o : O) (v' : Value) : Prop := O.rec (fun v => VR W' h' v v') (fun r => ∃ a, v' = .ref a ∧ h.get? a = none ∧ ¬ W' a ∧ OwnAt W' h' a r) o
noncomputable def BR (W : WS) (h : Heap) (o : O) (v' : Value) : Prop := O.rec (fun v => VR W h v v') (fun r => ∃ a, v' = .ref a ∧ OwnAt W h a r) o
def Aft (W : WS) (s : Shared) (Q : Value → Shared → Prop) (o : O) : Prop := ∀ v' W' s', Gs W s W' s' → RN s.heap W' s'.heap o v' → Q v' s'

section
variable {X : FC} {W : WS} {φ : Nat → List Addr} {s : Shared} {ρ : Loc} {Q : Value → Shared → Prop}
theorem At.gs (F : At X W φ s ρ) {W' : WS} {s' : Shared} (g : Gs W s W' s') : At X W' φ s' ρ :=
  have A := F.grow (t := s'.toks) g.g
  ⟨g.gens.trans F.gens, g.os.trans F.os, A.f, A.lr, A.ow⟩
theorem RN.ro (F : At X W φ s ρ) {W' : WS} {h' : Heap} {o : O} {v' : Value} (r : RN s.heap W' h' o v') : RO X W' φ h' o v' := by
  cases o with
  | val v => exact .val r
  | own r' =>
    obtain ⟨a, rfl, e, w, z⟩ := r
    refine ⟨[a], ⟨a, rfl, rfl, z⟩, fun b q => ?_⟩
    cases List.mem_singleton.mp q
    refine ⟨w, fun m => ?_, ?_⟩
    · rcases m with m | ⟨_, x, m⟩ | ⟨i, m⟩
      · obtain ⟨o, _, _, z, _⟩ := F.f.ns; rw [← m, e] at z; cases z
      · obtain ⟨o, _, z, _⟩ := F.f.cells x a m; rw [e] at z; cases z
      · obtain ⟨_, _, z⟩ := F.ow i a m; rw [e] at z; cases z
    · cases q : X.pin a with
      | none => rfl
      | some o => have := F.f.pin a o q; rw [e] at this; cases this
theorem Gs.toks (wf : ∀ a, W a → ∃ o, s.heap.get? a = some o) (t : Nat) : Gs W s W { s with toks := t } := ⟨⟨fun _ _ e => e, fun _ q => q, wf, fun _ _ _ q => q⟩, rfl, rfl⟩
theorem Aft.here {v : V} {v' : Value} {t : Nat} (k : Aft W s Q (.val v)) (wf : ∀ a, W a → ∃ o, s.heap.get? a = some o) (r : VR W s.heap v v') : Q v' { s with toks := t } := k _ _ _ (.toks wf t) r
theorem fresh_size (h : Heap) : h.get? h.objs.size = none := by
  cases q : h.get? h.objs.size with
  | none => rfl
  | some o => exact absurd (Heap.lt_size q) (Nat.lt_irrefl _)
theorem none_of_le {h : Heap} {a : Addr} (e : h.objs.size ≤ a) : h.get? a = none := by
  cases q : h.get? a with
  | none => rfl
  | some o => exact absurd (Heap.lt_size q) (Nat.not_lt.mpr e)
theorem Gs.of (wf : ∀ a, W a → ∃ o, s.heap.get? a = some o) {h' : Heap} {t : Nat} (k : ∀ a o, s.heap.get? a = some o → h'.get? a = some o) : Gs W s W { s with heap := h', toks := t } :=
  ⟨⟨k, fun _ q => q, fun a q => (wf a q).elim fun o e => ⟨o, k a o e⟩, fun _ _ _ q => q⟩, rfl, rfl⟩
theorem Aft.tuple {l : List V} {vs : Array Value} {e t : Nat} (k : Aft W s Q (.val (.tup l))) (wf : ∀ a, W a → ∃ o, s.heap.get? a = some o) (r : VRs W s.heap l vs.toList) (hz : l.length ≤ sizeLine) :
    Q (.ref s.heap.objs.size) { s with heap := s.heap.push (tupO vs e), toks := t } := by
  have hk : ∀ a o, s.heap.get? a = some o → (s.heap.push (tupO vs e)).get? a = some o := fun _ _ q => Heap.get?_push_of_some _ q
  have g : Grow W s.heap (fun b => W b ∨ b = s.heap.objs.size) (s.heap.push (tupO vs e)) := by
    refine ⟨hk, fun _ q => .inl q, fun a q => ?_, fun a o z q => q.elim id fun q => by rw [q, fresh_size] at z; cases z⟩
    rcases q with q | q
    · obtain ⟨o, z⟩ := wf a q; exact ⟨o, hk a o z⟩
    · rw [q]; exact ⟨_, Heap.get?_push_size _ rfl⟩
  exact k _ _ _ ⟨g, rfl, rfl⟩ ⟨_, vs, e, rfl, .inr rfl, Heap.get?_push_size _ rfl, hz, VRs.ag (g.ag wf) r⟩
theorem Aft.listAt {r : List V} {vs : Array Value} {e t a : Nat} {h' : Heap} (k : Aft W s Q (.own r)) (wf : ∀ a, W a → ∃ o, s.heap.get? a = some o) (hk : ∀ a o, s.heap.get? a = some o → h'.get? a = some o) (ha : s.heap.get? a = none)
    (ho : h'.get? a = some (lstO vs e)) (hr : VRs W s.heap r.reverse vs.toList) (hz : r.length ≤ sizeLine) : Q (.ref a) { s with heap := h', toks := t } :=
  have g := Gs.of (t := t) wf hk
  k _ _ _ g ⟨a, rfl, ha, (fun q => (wf a q).elim fun o z => by rw [ha] at z; cases z), vs, e, ho, VRs.ag (g.g.ag wf) hr, hz⟩
theorem Aft.list {r : List V} {vs : Array Value} {e t : Nat} (k : Aft W s Q (.own r)) (wf : ∀ a, W a → ∃ o, s.heap.get? a = some o) (hr : VRs W s.heap r.reverse vs.toList) (hz : r.length ≤ sizeLine) :
    Q (.ref s.heap.objs.size) { s with heap := s.heap.push (lstO vs e), toks := t } :=
  k.listAt wf (fun _ _ q => Heap.get?_push_of_some _ q) (fresh_size _) (Heap.get?_push_size _ rfl) hr hz
end

structure Pst (X : FC) (W : WS) (s : Shared) (W' : WS) (φ' : Nat → List Addr) (s' : Shared) (ρ' : Loc) : Prop where
  f : At X W' φ' s' ρ'
  ag : Ag W s.heap W' s'.heap
  vl : ∀ x v', Val X.env s.heap x v' → Val X.env s'.heap x v'

section
variable (G : Gl) (d : Nat) (fi : FI)
def EvG (x : Expr) (ρ : Loc) (o : O) (ρ' : Loc) : Prop := ∀ (X : FC) (E : Value → Shared → Prop) (W : WS) (φ : Nat → List Addr) (s : Shared), X.fi = fi → FS G d X → At X W φ s ρ →
  ∀ Q : Value → Shared → Prop, (∀ v' W' φ' s', Pst X W s W' φ' s' ρ' → RO X W' φ' s'.heap o v' → Q v' s') → wpAny X.C.M X.A (eval x X.env) Q E s
def EvV (x : Expr) (ρ : Loc) (v : V) (ρ' : Loc) : Prop := ∀ (X : FC) (E : Value → Shared → Prop) (W : WS) (φ : Nat → List Addr) (s : Shared), X.fi = fi → FS G d X → At X W φ s ρ →
  ∀ Q : Value → Shared → Prop, (∀ v' W' φ' s', Pst X W s W' φ' s' ρ' → VR W' s'.heap v v' → Q v' s') → wpAny X.C.M X.A (eval x X.env) Q E s
def PkG (x : Expr) (ρ : Loc) (o : O) (ρ' : Loc) : Prop := ∀ (X : FC) (E : Value → Shared → Prop) (W : WS) (φ : Nat → List Addr) (s : Shared), X.fi = fi → FS G d X → At X W φ s ρ →
  ∀ Q : Value → Shared → Prop, (∀ v' W' φ' s', Pst X W s W' φ' s' ρ' → BR W' s'.heap o v' → Q v' s') → wpAny X.C.M X.A (eval x X.env) Q E s
def TrG (x : Expr) (ρ : Loc) (t : Bool) (ρ' : Loc) : Prop := ∀ (X : FC) (E : Value → Shared → Prop) (W : WS) (φ : Nat → List Addr) (s : Shared), X.fi = fi → FS G d X → At X W φ s ρ →
  ∀ Q : Bool → Shared → Prop, (∀ W' φ' s', Pst X W s W' φ' s' ρ' → Q t s') → wpAny X.C.M X.A (isTrue x X.env (eval x X.env)) Q E s
abbrev plainArgs (xs : List Expr) (env : Env) : List (Bool × Sem Value) := xs.map fun x => (false, eval x env)
def RwG (xs : List Expr) (ρ : Loc) (vs : List V) (ρ' : Loc) : Prop := vs.length = xs.length ∧ ∀ (X : FC) (E : Value → Shared → Prop) (W : WS) (φ : Nat → List Addr) (s : Shared), X.fi = fi → FS G d X → At X W φ s ρ →
  ∀ Q : List Value → Shared → Prop, (∀ vs' W' φ' s', Pst X W s W' φ' s' ρ' → VRs W' s'.heap vs vs' → Q vs' s') → wpAny X.C.M X.A (spliced (plainArgs xs X.env)) Q E s
end
section
variable {G : Gl} {d : Nat} {fi : FI} {x : Expr} {ρ ρ' ρ₁ : Loc} {o : O} {X : FC} {W W' W'' : WS} {φ φ' φ'' : Nat → List Addr} {s s' s'' : Shared}
theorem Pst.refl (F : At X W φ s ρ) : Pst X W s W φ s ρ := ⟨F, .refl .., fun _ _ r => r⟩
theorem Pst.trans (p : Pst X W s W' φ' s' ρ₁) (q : Pst X W' s' W'' φ'' s'' ρ') : Pst X W s W'' φ'' s'' ρ' := ⟨q.f, p.ag.trans q.ag, fun x v r => q.vl x v (p.vl x v r)⟩
theorem Pst.gs (F : At X W φ s ρ) (g : Gs W s W' s') : Pst X W s W' φ s' ρ := ⟨F.gs g, g.g.ag F.f.wf, fun _ _ r => r.grow g.g.k⟩
theorem EvG.v (h : EvG G d fi x ρ o ρ') : EvV G d fi x ρ o.frz ρ' := fun X E W φ s e S F Q k => h X E W φ s e S F Q fun v' W' φ' s' p r => by
  obtain ⟨W'', A, B, C⟩ := p.f.frz r
  exact k v' W'' φ' s' ⟨A, p.ag.trans B, p.vl⟩ C
theorem RO.br {h : Heap} {v' : Value} (r : RO X W φ h o v') : BR W h o v' := by
  obtain ⟨p, r, _⟩ := r
  cases o with
  | val v => exact r.2
  | own r' => obtain ⟨a, _, e, z⟩ := r; exact ⟨a, e, z⟩
theorem EvG.pk (h : EvG G d fi x ρ o ρ') : PkG G d fi x ρ o ρ' := fun X E W φ s e S F Q k => h X E W φ s e S F Q fun v' W' φ' s' p r => k v' W' φ' s' p r.br
theorem Aft.of {Q : Value → Shared → Prop} (p : Pst X W s W' φ' s' ρ') (k : ∀ v' W' φ' s', Pst X W s W' φ' s' ρ' → RO X W' φ' s'.heap o v' → Q v' s') : Aft W' s' Q o := fun v' W'' s'' g r => k v' W'' φ' s'' (p.trans (.gs p.f g)) (r.ro p.f)
end
end Mine
end

section
open PySem
set_option autoImplicit false
set_option linter.unusedVariables false
namespace Mine
open PySem.W (Frag kitOne keepIn Looks)

def plainX : Expr → Bool
  | .Starred _ _ => false
  | .Slice _ _ _ _ => false
  | .Set _ _ _ => false
  | _ => true
def isComp : Expr → Bool
  | .ListComp _ _ _ _ => true
  | .SetComp _ _ _ _ => true
  | .DictComp _ _ _ _ _ => true
  | _ => false

noncomputable def V.int? (v : V) : Option Int := V.casesOn v Option.none (fun _ => Option.none) some (fun _ => Option.none) (fun _ => Option.none) (fun _ => Option.none)
noncomputable def V.str? (v : V) : Option (List Nat) := V.casesOn v Option.none (fun _ => Option.none) (fun _ => Option.none) some (fun _ => Option.none) (fun _ => Option.none)
noncomputable def V.tup? (v : V) : Option (List V) := V.casesOn v Option.none (fun _ => Option.none) (fun _ => Option.none) (fun _ => Option.none) some (fun _ => Option.none)
noncomputable def V.lst? (v : V) : Option (List V) := V.casesOn v Option.none (fun _ => Option.none) (fun _ => Option.none) (fun _ => Option.none) (fun _ => Option.none) some
theorem V.int_of {v : V} {i : Int} (e : v.int? = some i) : v = .int i := by cases v <;> cases e; rfl
theorem V.str_of {v : V} {i : List Nat} (e : v.str? = some i) : v = .str i := by cases v <;> cases e; rfl
theorem V.tup_of {v : V} {i : List V} (e : v.tup? = some i) : v = .tup i := by cases v <;> cases e; rfl
theorem V.lst_of {v : V} {i : List V} (e : v.lst? = some i) : v = .lst i := by cases v <;> cases e; rfl
noncomputable def truthB (o : O) : Bool := O.rec (fun v => V.casesOn v false id (fun i => i != 0) (fun s => !s.isEmpty) (fun l => !l.isEmpty) (fun l => !l.isEmpty)) (fun r => !r.isEmpty) o

theorem sizeLine_lt : sizeLine < 2 ^ 62 := by unfold sizeLine; omega
theorem arr_empty {l : List V} {vs : Array Value} (h : vs.size = l.length) : vs.isEmpty = l.isEmpty := by
  rw [Bool.eq_iff_iff]; simp [List.isEmpty_iff, ← List.length_eq_zero_iff, ← h]

section
variable {C : Cx} {A : Around} {E : Value → Shared → Prop} {W : WS} {s : Shared}
theorem truth_list {a : Addr} {vs : Array Value} {n : Nat} {l : List V} {Q : Bool → Shared → Prop} (e : s.heap.get? a = some (lstO vs n)) (r : VRs W s.heap l vs.toList) (hz : l.length ≤ sizeLine) (h : ∀ tk, Q (!l.isEmpty) { s with toks := tk }) : wpAny C.M A (truthy (.ref a)) Q E s := by
  have hs := r.size
  have := sizeLine_lt
  refine wpAny_truthy_list ⟨_, e, rfl, _, rfl⟩ (by rw [hs]; omega) ?_
  rw [arr_empty hs]; exact h _
theorem truth_ok {o : O} {v' : Value} {Q : Bool → Shared → Prop} (r : BR W s.heap o v') (h : ∀ tk, Q (truthB o) { s with toks := tk }) : wpAny C.M A (truthy v') Q E s := by
  have hz := sizeLine_lt
  cases o with
  | own r' =>
    obtain ⟨a, rfl, vs, n, e, x, y⟩ := r
    refine truth_list e x (by simpa using y) ?_
    rw [List.isEmpty_reverse]; exact h
  | val v =>
    cases v with
    | none => cases r; exact fun _ _ _ => h _
    | bool b => cases r; exact wpAny_truthy_bool (h s.toks)
    | int i => obtain ⟨t, rfl⟩ := r; exact P.truthy_int (h s.toks)
    | str z =>
      obtain ⟨t, rfl, ok, hl⟩ := r
      refine P.truthy_str (by simp [Str.length]; omega) ?_
      have : (((⟨z.toArray⟩ : Str).length : Int) != 0) = !z.isEmpty := by cases z <;> simp [Str.length]; omega
      rw [this]; exact h _
    | tup l =>
      obtain ⟨a, vs, n, rfl, _, e, hl, hr⟩ := VR.tup r
      have hs := hr.size
      refine PyProof.Rows.truthy_tuple ⟨_, e, rfl, _, rfl⟩ (by rw [hs]; omega) ?_
      rw [arr_empty hs]; exact h _
    | lst l =>
      obtain ⟨a, vs, n, rfl, _, e, hl, hr⟩ := VR.lst r
      exact truth_list e hr hl h
end

structure T (G : Gl) (d : Nat) (fi : FI) where
  x : Expr
  ev : St → Option (O × St)
  pk : St → Option (O × St)
  tr : St → Option (Bool × St)
  pl : plainX x = true
  eo : Ok ev (EvG G d fi x)
  po : Ok pk (PkG G d fi x)
  to : Ok tr (TrG G d fi x)
structure Rw (G : Gl) (d : Nat) (fi : FI) where
  xs : List Expr
  ev : St → Option (List V × St)
  pl : ∀ x, x ∈ xs → plainX x = true
  eo : Ok ev (RwG G d fi xs)

section
variable {G : Gl} {d : Nat} {fi : FI}
abbrev trPlain (x : Expr) : Prop := ∀ env, isTrue x env (eval x env) = (do let v ← eval x env; standAt x.pos; holding [v] (truthy v))
theorem PkG.tr {x : Expr} {ρ ρ' : Loc} {o : O} (h : PkG G d fi x ρ o ρ') (ht : trPlain x) : TrG G d fi x ρ (truthB o) ρ' := fun X E W φ s e S F Q k =>
  wpAny_isTrue_value (h X E W φ s e S F _ fun v' W' φ' s' p r => truth_ok r fun tk => k W' φ' { s' with toks := tk } ⟨p.f.toks tk, p.ag, p.vl⟩) (ht X.env)
theorem Ok.mono {α : Type} {f : St → Option (α × St)} {S S' : Loc → α → Loc → Prop} (h : Ok f S) (k : ∀ ρ a ρ', S ρ a ρ' → S' ρ a ρ') : Ok f S' := fun σ a σ' e q => ⟨(h σ a σ' e q).1, k _ _ _ (h σ a σ' e q).2⟩
noncomputable def tst (f : St → Option (O × St)) (σ : St) : Option (Bool × St) := bd (f σ) fun o σ => pu (truthB o) σ
theorem Ok.tst {x : Expr} {f : St → Option (O × St)} (h : Ok f (PkG G d fi x)) (ht : trPlain x) : Ok (tst f) (TrG G d fi x) :=
  h.bd (R := fun o ρ t ρ' => t = truthB o ∧ ρ = ρ') (fun o => .pu fun _ => ⟨rfl, rfl⟩) fun ρ o ρ₁ t ρ' a b => by obtain ⟨rfl, rfl⟩ := b; exact a.tr ht
noncomputable def T.mk' (x : Expr) (ev : St → Option (O × St)) (pl : plainX x = true) (eo : Ok ev (EvG G d fi x)) (ht : trPlain x) : T G d fi :=
  have po := eo.mono fun _ _ _ h => h.pk
  ⟨x, ev, ev, tst ev, pl, eo, po, po.tst ht⟩

theorem EvG.here {x : Expr} {ρ : Loc} {v : V} (h : ∀ (M : Model) (A : Around) (E : Value → Shared → Prop) (env : Env) (W : WS) (s : Shared) (Q : Value → Shared → Prop), (∀ v' t, VR W s.heap v v' → Q v' { s with toks := t }) → wpAny M A (eval x env) Q E s) : EvG G d fi x ρ (.val v) ρ :=
  fun X E W φ s e S F Q k => h _ _ _ _ W s Q fun v' t r => k v' W φ _ ⟨F.toks t, .refl .., fun _ _ r => r⟩ (.val r)
noncomputable def eNone (k : Nat) (p : Pos) : T G d fi := .mk' (.Constant .none k p) (pu (.val .none)) rfl (.pu fun _ => .here fun _ _ _ _ W s Q k => wpAny_Constant_none (k _ s.toks rfl)) fun _ => rfl
noncomputable def eBool (b : Bool) (k : Nat) (p : Pos) : T G d fi := .mk' (.Constant (.bool b) k p) (pu (.val (.bool b))) rfl (.pu fun _ => .here fun _ _ _ _ W s Q k => wpAny_Constant_bool (k _ s.toks rfl)) fun _ => rfl
noncomputable def eInt (i : Int) (k : Nat) (p : Pos) : T G d fi := .mk' (.Constant (.int i) k p) (pu (.val (.int i))) rfl (.pu fun _ => .here fun _ _ _ _ W s Q k => wpAny_Constant_int (k _ _ ⟨_, rfl⟩)) fun _ => rfl
noncomputable def eStr (x : Str) (z : List Nat) (k : Nat) (p : Pos) (e : x = ⟨z.toArray⟩) (h : (PyData.strOk ⟨z.toArray⟩ && Nat.ble z.length 1000) = true) : T G d fi :=
  .mk' (.Constant (.str x) k p) (pu (.val (.str z))) rfl (.pu fun _ => .here fun _ _ _ _ W s Q k => wpAny_Constant_str (k _ _ (by
    subst e
    rw [Bool.and_eq_true] at h
    exact ⟨_, rfl, h.1, Nat.le_trans (Nat.le_of_ble_eq_true h.2) (by decide)⟩))) fun _ => rfl

theorem lookup_upd {i : Nat} {ρ : Loc} {o : O} (e : slot ρ i = some o) : ρ[i]? = some (some o) := slot_some e
noncomputable def evVar (i : Nat) (σ : St) : Option (O × St) := (slot σ.ρ i).bind fun o => O.casesOn o (fun v => some (.val v, σ)) fun r => some (.val (.lst r.reverse), ⟨σ.ρ.set i (some (.val (.lst r.reverse))), σ.tp, σ.ob⟩)
noncomputable def pkVar (i : Nat) (σ : St) : Option (O × St) := (slot σ.ρ i).bind fun o => some (o, σ)
theorem OR.br {W : WS} {h : Heap} {p : List Addr} {o : O} {v' : Value} (r : OR W h p o v') : BR W h o v' := by
  cases o with
  | val v => exact r.2
  | own r' => obtain ⟨a, _, e, z⟩ := r; exact ⟨a, e, z⟩
theorem pkVar_ok {x : Str} {i : Nat} {p : Pos} (h : fi.isVar x i = true) : Ok (pkVar i) (PkG G d fi (.Name x p)) := by
  intro σ o σ' e q
  obtain ⟨o', e1, e2⟩ := Option.bind_eq_some_iff.mp e
  cases e2
  refine ⟨q, fun X E W φ s ef S F Q k => ?_⟩
  subst ef
  exact load_ok S F h (slot_some e1) fun v' _ _ _ r => k v' W φ s (.refl F) r.br
theorem evVar_ok {x : Str} {i : Nat} {p : Pos} (h : fi.isVar x i = true) : Ok (evVar i) (EvG G d fi (.Name x p)) := by
  intro σ o σ' e q
  obtain ⟨o', e1, e2⟩ := Option.bind_eq_some_iff.mp e
  have e1 := slot_some e1
  cases o' with
  | val v =>
    cases e2
    refine ⟨q, fun X E W φ s ef S F Q k => ?_⟩
    subst ef
    exact load_ok S F h e1 fun v' _ _ _ r => k v' W φ s (.refl F) (.val r.2)
  | own r' =>
    cases e2
    refine ⟨q, fun X E W φ s ef S F Q k => ?_⟩
    subst ef
    refine load_ok S F h e1 fun v' h1 h2 hv r => ?_
    obtain ⟨W', b2, b3, b4⟩ := F.frzVar (fun y hy => S.ti y x i hy h1) hv r
    exact k _ W' _ s ⟨b2, b3, fun _ _ r => r⟩ (.val b4)
noncomputable def eVar (x : Str) (i : Nat) (p : Pos) (h : fi.isVar x i = true) : T G d fi := ⟨.Name x p, evVar i, pkVar i, tst (pkVar i), rfl, evVar_ok h, pkVar_ok h, (pkVar_ok h).tst fun _ => rfl⟩
end
end Mine
end

section
open PySem
set_option autoImplicit false
set_option linter.unusedVariables false
namespace Mine

theorem noStar {x : Expr} (h : plainX x = true) {rest : List Expr} {env : Env} : starEach (x :: rest) env = (false, eval x env) :: starEach rest env := by
  cases x <;> first | rfl | cases h
theorem noMark {x : Expr} (h : plainX x = true) (op : CmpOp) : behindInMarks op x = false := by
  cases x <;> first | rfl | cases h
theorem backTo_plain (pos : Pos) (xs : List Expr) (env : Env) : backTo pos (plainArgs xs env) = plainArgs xs env := by
  simp [backTo, plainArgs]

section
variable {G : Gl} {d : Nat} {fi : FI}
theorem starEach_plain {env : Env} : ∀ {xs : List Expr}, (∀ x, x ∈ xs → plainX x = true) → starEach xs env = plainArgs xs env
  | [], _ => rfl
  | x :: xs, h => by rw [noStar (h x List.mem_cons_self), starEach_plain fun y q => h y (List.mem_cons_of_mem _ q)]; rfl
theorem Rw.back (r : Rw G d fi) (pos : Pos) (env : Env) : backTo pos (starEach r.xs env) = plainArgs r.xs env := by rw [starEach_plain r.pl, backTo_plain]

noncomputable def rNil : Rw G d fi := ⟨[], pu [], fun _ q => (nomatch q), .pu fun _ => ⟨rfl, fun X E W φ s e S F Q k => wpAny_pure (k [] W φ s (.refl F) rfl)⟩⟩
theorem RwG.cons {x : Expr} {xs : List Expr} {ρ ρ₁ ρ' : Loc} {v : V} {vs : List V} (h : EvV G d fi x ρ v ρ₁) (hs : RwG G d fi xs ρ₁ vs ρ') : RwG G d fi (x :: xs) ρ (v :: vs) ρ' :=
  ⟨congrArg (· + 1) hs.1, fun X E W φ s e S F Q k => PySem.Calls.spliced_cons (h X E W φ s e S F _ fun v' W₁ φ₁ s₁ p r => hs.2 X E W₁ φ₁ s₁ e S p.f _ fun vs' W₂ φ₂ s₂ p₂ r₂ => k _ W₂ φ₂ s₂ (p.trans p₂) (.cons (r.ag p₂.ag) r₂))⟩
noncomputable def rCons (a : T G d fi) (b : Rw G d fi) : Rw G d fi :=
  ⟨a.x :: b.xs, fun σ => bd (a.ev σ) fun x σ => bd (b.ev σ) fun vs σ => pu (x.frz :: vs) σ, fun y q => (List.mem_cons.mp q).elim (fun q => q ▸ a.pl) (b.pl y),
    a.eo.bd (R := fun o ρ vs ρ' => ∃ ws, vs = o.frz :: ws ∧ RwG G d fi b.xs ρ ws ρ') (fun o => b.eo.bd (R := fun ws ρ vs ρ' => vs = o.frz :: ws ∧ ρ = ρ') (fun ws => .pu fun _ => ⟨rfl, rfl⟩) fun _ ws _ _ _ h q => by obtain ⟨rfl, rfl⟩ := q; exact ⟨ws, rfl, h⟩)
      fun _ o _ _ _ h q => by obtain ⟨ws, rfl, hs⟩ := q; exact .cons h.v hs⟩

noncomputable def eTup (r : Rw G d fi) (k : Nat) (p : Pos) (h : Nat.ble r.xs.length 1000 = true) : T G d fi :=
  .mk' (.Tuple r.xs k p) (fun σ => bd (r.ev σ) fun vs σ => pu (.val (.tup vs)) σ) rfl
    (r.eo.bd (R := fun vs ρ o ρ' => o = .val (.tup vs) ∧ ρ = ρ') (fun vs => .pu fun _ => ⟨rfl, rfl⟩) fun _ vs _ _ _ hs q => by
      obtain ⟨rfl, rfl⟩ := q
      intro X E W φ s e S F Q k
      refine wpAny_Tuple ?_
      rw [r.back]
      refine hs.2 X E W φ s e S F _ fun vs' W' φ' s' p' r' => ?_
      have hz : vs.length ≤ sizeLine := by rw [hs.1]; exact Nat.le_trans (Nat.le_of_ble_eq_true h) (by decide)
      exact ⟨by rw [r'.length]; exact hz, (Aft.of p' k).tuple (t := s'.toks) p'.f.f.wf r' hz⟩) fun _ => rfl
noncomputable def eLst (r : Rw G d fi) (p : Pos) (h : Nat.ble r.xs.length 1000 = true) : T G d fi :=
  .mk' (.List r.xs p) (fun σ => bd (r.ev σ) fun vs σ => pu (.own vs.reverse) σ) rfl
    (r.eo.bd (R := fun vs ρ o ρ' => o = .own vs.reverse ∧ ρ = ρ') (fun vs => .pu fun _ => ⟨rfl, rfl⟩) fun _ vs _ _ _ hs q => by
      obtain ⟨rfl, rfl⟩ := q
      intro X E W φ s e S F Q k
      refine wpAny_List ?_
      rw [r.back]
      refine hs.2 X E W φ s e S F _ fun vs' W' φ' s' p' r' => ?_
      have hz : vs.length ≤ sizeLine := by rw [hs.1]; exact Nat.le_trans (Nat.le_of_ble_eq_true h) (by decide)
      exact ⟨by rw [r'.length]; exact hz, (Aft.of p' k).list (t := s'.toks) p'.f.f.wf (by rw [List.reverse_reverse]; exact r') (by rwa [List.length_reverse])⟩) fun _ => rfl

def Prim2 (G : Gl) (d : Nat) (tree : Value → Value → Sem Value) (k : V → V → Option (O × List Prop)) : Prop :=
  ∀ x y o ps, k x y = some (o, ps) → All ps → ∀ (X : FC) (E : Value → Shared → Prop) (W : WS) (φ : Nat → List Addr) (s : Shared) (ρ : Loc), FS G d X → At X W φ s ρ → ∀ x' y', VR W s.heap x x' → VR W s.heap y y' →
    ∀ Q, Aft W s Q o → wpAny X.C.M X.A (tree x' y') Q E s
noncomputable def ev2 (a b : T G d fi) (k : V → V → Option (O × List Prop)) (σ : St) : Option (O × St) := bd (a.ev σ) fun x σ => bd (b.ev σ) fun y σ => rt (k x.frz y.frz) σ
theorem ok2 {a b : T G d fi} {k : V → V → Option (O × List Prop)} {x : Expr} {tree : Value → Value → Sem Value} (h : Prim2 G d tree k)
    (rule : ∀ (M : Model) (A : Around) (E : Value → Shared → Prop) (s : Shared) (env : Env) (Q : Value → Shared → Prop), wpAny M A (eval a.x env) (fun a' s₁ => wpAny M A (eval b.x env) (fun b' s₂ => wpAny M A (tree a' b') Q E s₂) E s₁) E s → wpAny M A (eval x env) Q E s) :
    Ok (ev2 a b k) (EvG G d fi x) :=
  a.eo.bd (R := fun u ρ o ρ' => ∃ v ps, EvG G d fi b.x ρ v ρ' ∧ k u.frz v.frz = some (o, ps) ∧ All ps) (fun u => b.eo.bd (R := fun v ρ o ρ' => ∃ ps, k u.frz v.frz = some (o, ps) ∧ All ps ∧ ρ = ρ') (fun v => .rt fun o ps ρ e q => ⟨ps, e, q, rfl⟩)
    fun _ v _ _ _ h q => by obtain ⟨ps, q1, q2, rfl⟩ := q; exact ⟨v, ps, h, q1, q2⟩) fun _ u _ o _ h1 q => by
      obtain ⟨v, ps, h2, q1, q2⟩ := q
      intro X E W φ s e S F Q kk
      refine rule _ _ _ _ _ _ (h1.v X E W φ s e S F _ fun u' W₁ φ₁ s₁ p₁ r₁ => h2.v X E W₁ φ₁ s₁ e S p₁.f _ fun v' W₂ φ₂ s₂ p₂ r₂ => ?_)
      exact h _ _ _ _ q1 q2 X E W₂ φ₂ s₂ _ S p₂.f _ _ (r₁.ag p₂.ag) r₂ _ (Aft.of (p₁.trans p₂) kk)
noncomputable def eBin (op : Operator) (k : V → V → Option (O × List Prop)) (h : Prim2 G d (binaryOp op) k) (a b : T G d fi) (p : Pos) : T G d fi :=
  .mk' (.BinOp a.x op b.x p) (ev2 a b k) rfl (ok2 h fun _ _ _ _ _ _ q => wpAny_BinOp q) fun _ => rfl

noncomputable def kInt (f : Int → Int → Int) (c : Int → Int → List Prop) (x y : V) : Option (O × List Prop) := x.int?.bind fun i => y.int?.bind fun j => some (.val (.int (f i j)), c i j)
theorem primInt {op : Operator} {f : Int → Int → Int} {c : Int → Int → List Prop} (h : ∀ (C : Cx) (A : Around) (E : Value → Shared → Prop) (s : Shared) (i j : Int) (t u : Tok) (Q : Value → Shared → Prop), All (c i j) → (∀ t n, Q (.int (f i j) t) { s with toks := n }) → wpAny C.M A (binaryOp op (.int i t) (.int j u)) Q E s) :
    Prim2 G d (binaryOp op) (kInt f c) := by
  intro x y o ps e q X E W φ s ρ S F x' y' rx ry Q k
  obtain ⟨i, e1, e⟩ := Option.bind_eq_some_iff.mp e
  obtain ⟨j, e2, e⟩ := Option.bind_eq_some_iff.mp e
  cases e
  rw [V.int_of e1] at rx; rw [V.int_of e2] at ry
  obtain ⟨t, rfl⟩ := rx
  obtain ⟨u, rfl⟩ := ry
  exact h _ _ _ _ _ _ _ _ _ q fun t n => k.here F.f.wf ⟨t, rfl⟩
noncomputable def eAdd : T G d fi → T G d fi → Pos → T G d fi := eBin .Add (kInt (· + ·) fun _ _ => []) (primInt fun _ _ _ _ _ _ _ _ _ _ k => P.add_int (k _ _))
noncomputable def eSub : T G d fi → T G d fi → Pos → T G d fi := eBin .Sub (kInt (· - ·) fun _ _ => []) (primInt fun _ _ _ _ _ _ _ _ _ _ k => P.sub_int (k _ _))
noncomputable def eMul : T G d fi → T G d fi → Pos → T G d fi := eBin .Mult (kInt (· * ·) fun i j => [i.natAbs < 2 ^ 62 ∨ j.natAbs < 2 ^ 62]) (primInt fun _ _ _ _ _ _ _ _ _ q k => P.mul_int (k _ _) (by
  rcases q.1 with hc | hc
  · exact IntMulOk.of_left (intBits_le_64 (by omega) (by omega))
  · exact IntMulOk.of_right (intBits_le_64 (by omega) (by omega))))
noncomputable def eDiv : T G d fi → T G d fi → Pos → T G d fi := eBin .FloorDiv (kInt (· / ·) fun _ j => [0 < j ∧ j < 2 ^ 29]) (primInt fun _ _ _ s i j _ _ Q q k => by
  have hc := q.1
  refine AutoIntOps.floordiv_1 (by simp; omega) (by rw [PyProof.noPylong_small (by omega)]; decide) ?_
  show Q (.int (i.fdiv j) s.toks) _
  rw [Int.fdiv_eq_ediv_of_nonneg _ (by omega)]; exact k _ _)
noncomputable def eMod : T G d fi → T G d fi → Pos → T G d fi := eBin .Mod (kInt (· % ·) fun _ j => [0 < j]) (primInt fun _ _ _ s i j _ _ Q q k => by
  have hc := q.1
  refine AutoIntOps.mod_1 (by simp; omega) ?_
  show Q (.int (i.fmod j) s.toks) _
  rw [Int.fmod_eq_emod_of_nonneg _ (by omega)]; exact k _ _)
noncomputable def ePow : T G d fi → T G d fi → Pos → T G d fi := eBin .Pow (kInt (fun i j => i ^ j.toNat) fun i j => [i = 10 ∧ 0 < j ∧ j ≤ 100]) (primInt fun _ _ _ s i j _ _ Q q k => by
  obtain ⟨rfl, hj0, hj1⟩ := q.1
  refine AutoIntOps.pow_4 (by omega) (by simp; omega) (by decide) (by decide) ?_ (k _ _)
  have h10 : Builtin.Int.intBits 10 = 4 := by decide +kernel
  rw [h10]
  have hb : (bitsLine : Int) = 134217728 := by decide +kernel
  unfold Builtin.Int.intTooBig
  rw [decide_eq_true_eq, hb]
  omega)

theorem strOk_append {x y : List Nat} (hx : PyData.strOk ⟨x.toArray⟩ = true) (hy : PyData.strOk ⟨y.toArray⟩ = true) : PyData.strOk ⟨(x ++ y).toArray⟩ = true := by
  simp [PyData.strOk] at *
  exact ⟨hx, hy⟩
theorem strOk_of {x y : List Nat} (hx : PyData.strOk ⟨x.toArray⟩ = true) (h : ∀ c ∈ y, c ∈ x) : PyData.strOk ⟨y.toArray⟩ = true := by
  simp [PyData.strOk] at *
  exact fun c hc => hx c (h c hc)
theorem str_append (x y : List Nat) : (⟨x.toArray⟩ : Str) ++ ⟨y.toArray⟩ = ⟨(x ++ y).toArray⟩ := by
  show Str.mk (x.toArray ++ y.toArray) = _
  simp
def room : Nat := 1000000
theorem room_le : room ≤ sizeLine := by decide

noncomputable def kCat (x y : V) : Option (O × List Prop) := x.str?.bind fun i => y.str?.bind fun j => some (.val (.str (i ++ j)), [(i ++ j).length ≤ room])
theorem primCat : Prim2 G d (binaryOp .Add) kCat := by
  intro x y o ps e q X E W φ s ρ S F x' y' rx ry Q k
  obtain ⟨i, e1, e⟩ := Option.bind_eq_some_iff.mp e
  obtain ⟨j, e2, e⟩ := Option.bind_eq_some_iff.mp e
  cases e
  rw [V.str_of e1] at rx; rw [V.str_of e2] at ry
  obtain ⟨t, rfl, ok1, z1⟩ := rx
  obtain ⟨u, rfl, ok2, z2⟩ := ry
  have hz := Nat.le_trans q.1 room_le
  refine P.add_str ?_
  split
  · rename_i q
    have : i = [] := by simpa [Str.length] using q
    subst this
    exact k.here F.f.wf ⟨u, rfl, ok2, z2⟩
  · split
    · rename_i q
      have : j = [] := by simpa [Str.length] using q
      subst this
      rw [List.append_nil] at k
      exact k.here F.f.wf ⟨t, rfl, ok1, z1⟩
    · rw [str_append]
      exact ⟨by simpa [Str.length] using hz, k.here F.f.wf ⟨_, rfl, strOk_append ok1 ok2, hz⟩⟩
noncomputable def eCat : T G d fi → T G d fi → Pos → T G d fi := eBin .Add kCat primCat
noncomputable def kAddL (x y : V) : Option (O × List Prop) := x.lst?.bind fun i => y.lst?.bind fun j => some (.own (i ++ j).reverse, [(i ++ j).length ≤ room])
theorem primAddL : Prim2 G d (binaryOp .Add) kAddL := by
  intro x y o ps e q X E W φ s ρ S F x' y' rx ry Q k
  obtain ⟨i, e1, e⟩ := Option.bind_eq_some_iff.mp e
  obtain ⟨j, e2, e⟩ := Option.bind_eq_some_iff.mp e
  cases e
  rw [V.lst_of e1] at rx; rw [V.lst_of e2] at ry
  obtain ⟨a, vs, n, rfl, _, h1, z1, r1⟩ := VR.lst rx
  obtain ⟨b, ws, m, rfl, _, h2, z2, r2⟩ := VR.lst ry
  have hz := Nat.le_trans q.1 room_le
  refine P.add_list h1 h2 (k.list F.f.wf ?_ ?_) ?_
  · rw [Array.toList_append, List.reverse_reverse]; exact r1.append r2
  · rwa [List.length_reverse]
  · rw [r1.size, r2.size, ← List.length_append]; exact hz
noncomputable def eAddL : T G d fi → T G d fi → Pos → T G d fi := eBin .Add kAddL primAddL

theorem neg_ok {a : T G d fi} {p : Pos} : Ok (fun σ => bd (a.ev σ) fun x σ => rt (x.frz.int?.bind fun i => some (.val (.int (-i)), [])) σ) (EvG G d fi (.UnaryOp .USub a.x p)) :=
  a.eo.bd (R := fun x ρ o ρ' => ∃ i, x.frz = .int i ∧ o = .val (.int (-i)) ∧ ρ = ρ') (fun x => .rt fun o ps ρ e q => by
    obtain ⟨i, e1, e⟩ := Option.bind_eq_some_iff.mp e; cases e; exact ⟨i, V.int_of e1, rfl, rfl⟩) fun _ x _ _ _ h q => by
      obtain ⟨i, hx, rfl, rfl⟩ := q
      intro X E W φ s e S F Q k
      refine wpAny_UnaryOp (h.v X E W φ s e S F _ fun v' W' φ' s' p' r' => ?_)
      rw [hx] at r'
      obtain ⟨t, rfl⟩ := r'
      exact P.neg_int ((Aft.of p' k).here p'.f.f.wf ⟨_, rfl⟩)
noncomputable def eNeg (a : T G d fi) (p : Pos) : T G d fi := .mk' (.UnaryOp .USub a.x p) _ rfl (neg_ok (a := a)) fun _ => rfl
noncomputable def eNot (a : T G d fi) (p : Pos) : T G d fi where
  x := .UnaryOp .Not a.x p
  ev σ := bd (a.pk σ) fun x σ => pu (.val (.bool (!truthB x))) σ
  pk σ := bd (a.pk σ) fun x σ => pu (.val (.bool (!truthB x))) σ
  tr σ := bd (a.tr σ) fun t σ => pu (!t) σ
  pl := rfl
  eo := a.po.bd (R := fun x ρ o ρ' => o = .val (.bool (!truthB x)) ∧ ρ = ρ') (fun x => .pu fun _ => ⟨rfl, rfl⟩) fun _ x _ _ _ h q => by
    obtain ⟨rfl, rfl⟩ := q
    exact fun X E W φ s e S F Q k => wpAny_UnaryOp (h X E W φ s e S F _ fun v' W' φ' s' p' r' => not_value (truth_ok r' fun tk => k _ W' φ' _ ⟨p'.f.toks tk, p'.ag, p'.vl⟩ (.val rfl)))
  po := a.po.bd (R := fun x ρ o ρ' => o = .val (.bool (!truthB x)) ∧ ρ = ρ') (fun x => .pu fun _ => ⟨rfl, rfl⟩) fun _ x _ _ _ h q => by
    obtain ⟨rfl, rfl⟩ := q
    exact fun X E W φ s e S F Q k => wpAny_UnaryOp (h X E W φ s e S F _ fun v' W' φ' s' p' r' => not_value (truth_ok r' fun tk => k _ W' φ' _ ⟨p'.f.toks tk, p'.ag, p'.vl⟩ rfl))
  to := a.to.bd (R := fun t ρ u ρ' => u = !t ∧ ρ = ρ') (fun t => .pu fun _ => ⟨rfl, rfl⟩) fun _ t _ _ _ h q => by
    obtain ⟨rfl, rfl⟩ := q
    exact fun X E W φ s e S F Q k => wpAny_isTrue_Not (h X E W φ s e S F _ fun W' φ' s' p' => k W' φ' s' p')
end
end Mine
end

section
open PySem
set_option autoImplicit false
set_option linter.unusedVariables false
namespace Mine

noncomputable def Tk.b? (k : Tk) : Option Bool := Tk.casesOn k some (fun _ => none) (fun _ _ => none) (fun _ => none)
noncomputable def Tk.r? (k : Tk) : Option O := Tk.casesOn k (fun _ => none) some (fun _ _ => none) (fun _ => none)
noncomputable def Tk.l? (k : Tk) : Option (Fl × Loc) := Tk.casesOn k (fun _ => none) (fun _ => none) (fun a b => some (a, b)) (fun _ => none)
noncomputable def Tk.vs? (k : Tk) : Option (List V) := Tk.casesOn k (fun _ => none) (fun _ => none) (fun _ _ => none) some
noncomputable def told {α β : Type} (f : Tk → Option β) (p : Loc → β → Prop) (r : β → α) (ρ : β → Loc → Loc) (σ : St) : Option (α × St) :=
  List.casesOn σ.tp none fun k tp => (f k).bind fun b => some (r b, ⟨ρ b σ.ρ, tp, p σ.ρ b :: σ.ob⟩)
theorem Ok.told {α β : Type} {f : Tk → Option β} {p : Loc → β → Prop} {r : β → α} {ρ : β → Loc → Loc} {S : Loc → α → Loc → Prop} (k : ∀ b ρ₀, p ρ₀ b → S ρ₀ (r b) (ρ b ρ₀)) : Ok (told f p r ρ) S := by
  intro σ a σ' e h
  unfold Mine.told at e
  cases ht : σ.tp with
  | nil => rw [ht] at e; cases e
  | cons t tp =>
    rw [ht] at e
    obtain ⟨b, _, e⟩ := Option.bind_eq_some_iff.mp e
    cases e
    exact ⟨h.2, k b _ h.1⟩
noncomputable def dec (f t : Bool) (σ : St) : Option (Bool × St) := Bool.casesOn f (pu t σ) (told Tk.b? (fun _ b => t = b) id (fun _ ρ => ρ) σ)
theorem Ok.dec (f t : Bool) : Ok (dec f t) fun ρ b ρ' => b = t ∧ ρ = ρ' := by
  cases f with
  | false => exact .pu fun _ => ⟨rfl, rfl⟩
  | true => exact Ok.told (f := Tk.b?) (p := fun _ b => t = b) (r := id) (ρ := fun _ ρ => ρ) fun b _ h => ⟨h.symm, rfl⟩

section
variable {G : Gl} {d : Nat} {fi : FI}
noncomputable def sc (op : BoolOp) (t : Bool) : Bool := BoolOp.casesOn op (!t) t
def BvG (G : Gl) (d : Nat) (fi : FI) (pos : Pos) (op : BoolOp) (xs : List Expr) (ρ : Loc) (o : O) (ρ' : Loc) : Prop := ∀ (X : FC) (E : Value → Shared → Prop) (W : WS) (φ : Nat → List Addr) (s : Shared), X.fi = fi → FS G d X → At X W φ s ρ →
  ∀ Q : Value → Shared → Prop, (∀ v' W' φ' s', Pst X W s W' φ' s' ρ' → RO X W' φ' s'.heap o v' → Q v' s') → wpAny X.C.M X.A (boolOp pos op (evalEach xs X.env)) Q E s
def BtG (G : Gl) (d : Nat) (fi : FI) (op : BoolOp) (xs : List Expr) (ρ : Loc) (t : Bool) (ρ' : Loc) : Prop := ∀ (X : FC) (E : Value → Shared → Prop) (W : WS) (φ : Nat → List Addr) (s : Shared), X.fi = fi → FS G d X → At X W φ s ρ →
  ∀ Q : Bool → Shared → Prop, (∀ W' φ' s', Pst X W s W' φ' s' ρ' → Q t s') → wpAny X.C.M X.A (allTrue op xs X.env) Q E s
structure Bp (G : Gl) (d : Nat) (fi : FI) (op : BoolOp) where
  x : Expr
  xs : List Expr
  ev : St → Option (O × St)
  tr : St → Option (Bool × St)
  eo : ∀ pos, Ok ev (BvG G d fi pos op (x :: xs))
  to : Ok tr (BtG G d fi op (x :: xs))
theorem allTrue_one {op : BoolOp} {M : Model} {A : Around} {E : Value → Shared → Prop} {s : Shared} {env : Env} {x : Expr} {rest : List Expr} {Q : Bool → Shared → Prop}
    (h : wpAny M A (isTrue x env (eval x env)) (fun t s₁ => Bool.casesOn (motive := fun _ => Prop) (sc op t) (wpAny M A (allTrue op rest env) Q E s₁) (Q t s₁)) E s) : wpAny M A (allTrue op (x :: rest) env) Q E s := by
  cases op
  · exact wpAny_allTrue_And_cons (wpAny_mono h (fun t _ q => by cases t <;> exact q) fun _ _ q => q)
  · exact wpAny_allTrue_Or_cons (wpAny_mono h (fun t _ q => by cases t <;> exact q) fun _ _ q => q)
noncomputable def bLast (op : BoolOp) (a : T G d fi) : Bp G d fi op :=
  ⟨a.x, [], a.ev, a.tr, fun _ => a.eo, a.to.mono fun ρ t ρ' h X E W φ s e S F Q k => allTrue_one (h X E W φ s e S F _ fun W' φ' s' p => by
    cases op <;> cases t
    · exact k _ _ _ p
    · exact wpAny_allTrue_And_nil (k _ _ _ p)
    · exact wpAny_allTrue_Or_nil (k _ _ _ p)
    · exact k _ _ _ p)⟩
noncomputable def bCons (f : Bool) {op : BoolOp} (a : T G d fi) (b : Bp G d fi op) : Bp G d fi op where
  x := a.x
  xs := b.x :: b.xs
  ev σ := bd (a.ev σ) fun x σ => bd (dec f (truthB x) σ) fun t σ => Bool.casesOn (sc op t) (b.ev σ) (pu x σ)
  tr σ := bd (a.tr σ) fun t σ => bd (dec f t σ) fun t σ => Bool.casesOn (sc op t) (b.tr σ) (pu t σ)
  eo pos := a.eo.bd (R := fun x ρ o ρ' => Bool.casesOn (motive := fun _ => Prop) (sc op (truthB x)) (BvG G d fi pos op (b.x :: b.xs) ρ o ρ') (o = x ∧ ρ = ρ'))
    (fun x => (Ok.dec f _).bd (R := fun t ρ o ρ' => Bool.casesOn (motive := fun _ => Prop) (sc op t) (BvG G d fi pos op (b.x :: b.xs) ρ o ρ') (o = x ∧ ρ = ρ')) (fun t => by
      cases sc op t
      · exact b.eo pos
      · exact .pu fun _ => ⟨rfl, rfl⟩) fun _ t _ _ _ h q => by obtain ⟨rfl, rfl⟩ := h; exact q)
    fun _ x _ o _ h q X E W φ s e S F Q k => by
      show wpAny _ _ (eval a.x X.env >>= fun v => standAt pos >>= fun _ => holding [v] (truthy v) >>= fun t => _) Q E s
      refine wpAny_bind (h X E W φ s e S F _ fun v' W' φ' s' p' r' => wpAny_bind (wpAny_standAt (wpAny_bind (wpAny_holding (truth_ok r'.br fun tk => ?_)))))
      have p1 : Pst X W s W' φ' { s' with toks := tk } _ := ⟨p'.f.toks tk, p'.ag, p'.vl⟩
      revert q
      cases truthB x <;> cases op <;> intro q
      · obtain ⟨rfl, rfl⟩ := q; exact wpAny_pure (k _ _ _ _ p1 r')
      · exact q X E W' φ' _ e S p1.f _ fun v2 W2 φ2 s2 p2 r2 => k _ _ _ _ (p1.trans p2) r2
      · exact q X E W' φ' _ e S p1.f _ fun v2 W2 φ2 s2 p2 r2 => k _ _ _ _ (p1.trans p2) r2
      · obtain ⟨rfl, rfl⟩ := q; exact wpAny_pure (k _ _ _ _ p1 r')
  to := a.to.bd (R := fun t ρ u ρ' => Bool.casesOn (motive := fun _ => Prop) (sc op t) (BtG G d fi op (b.x :: b.xs) ρ u ρ') (u = t ∧ ρ = ρ'))
    (fun t => (Ok.dec f t).bd (R := fun t ρ u ρ' => Bool.casesOn (motive := fun _ => Prop) (sc op t) (BtG G d fi op (b.x :: b.xs) ρ u ρ') (u = t ∧ ρ = ρ')) (fun t => by
      cases sc op t
      · exact b.to
      · exact .pu fun _ => ⟨rfl, rfl⟩) fun _ t _ _ _ h q => by obtain ⟨rfl, rfl⟩ := h; exact q)
    fun _ t _ u _ h q X E W φ s e S F Q k => allTrue_one (h X E W φ s e S F _ fun W' φ' s' p' => by
      revert q
      cases sc op t <;> intro q
      · exact q X E W' φ' s' e S p'.f _ fun W2 φ2 s2 p2 => k _ _ _ (p'.trans p2)
      · obtain ⟨rfl, rfl⟩ := q; exact k _ _ _ p')
noncomputable def eBop {op : BoolOp} (r : Bp G d fi op) (p : Pos) : T G d fi :=
  ⟨.BoolOp op (r.x :: r.xs) p, r.ev, r.ev, r.tr, rfl, r.eo p, (r.eo p).mono fun ρ o ρ' h => EvG.pk h, r.to.mono fun ρ t ρ' h X E W φ s e S F Q k => wpAny_isTrue_BoolOp (h X E W φ s e S F Q k)⟩

def PrimC (G : Gl) (d : Nat) (op : CmpOp) (k : V → O → Option (Bool × List Prop)) : Prop :=
  ∀ x y t ps, k x y = some (t, ps) → All ps → ∀ (X : FC) (E : Value → Shared → Prop) (W : WS) (φ : Nat → List Addr) (s : Shared) (ρ : Loc), FS G d X → At X W φ s ρ → ∀ x' y', VR W s.heap x x' → BR W s.heap y y' →
    ∀ Q : Value → Shared → Prop, (∀ tk, Q (.bool t) { s with toks := tk }) → wpAny X.C.M X.A (compareOp op x' y') Q E s
def CmG (G : Gl) (d : Nat) (fi : FI) (op : CmpOp) (a b : Expr) (ρ : Loc) (t : Bool) (ρ' : Loc) : Prop := ∀ (X : FC) (E : Value → Shared → Prop) (W : WS) (φ : Nat → List Addr) (s : Shared), X.fi = fi → FS G d X → At X W φ s ρ →
  ∀ Q : Value → Shared → Prop, (∀ W' φ' s', Pst X W s W' φ' s' ρ' → Q (.bool t) s') → wpAny X.C.M X.A (eval a X.env) (fun a' s₁ => wpAny X.C.M X.A (eval b X.env) (fun b' s₂ => wpAny X.C.M X.A (compareOp op a' b') Q E s₂) E s₁) E s
noncomputable def evC (a b : T G d fi) (k : V → O → Option (Bool × List Prop)) (σ : St) : Option (Bool × St) := bd (a.ev σ) fun x σ => bd (b.pk σ) fun y σ => rt (k x.frz y) σ
theorem evC_ok {op : CmpOp} {k : V → O → Option (Bool × List Prop)} (h : PrimC G d op k) (a b : T G d fi) : Ok (evC a b k) (CmG G d fi op a.x b.x) :=
  a.eo.bd (R := fun u ρ t ρ' => ∃ v ps, PkG G d fi b.x ρ v ρ' ∧ k u.frz v = some (t, ps) ∧ All ps) (fun u => b.po.bd (R := fun v ρ t ρ' => ∃ ps, k u.frz v = some (t, ps) ∧ All ps ∧ ρ = ρ') (fun v => .rt fun t ps ρ e q => ⟨ps, e, q, rfl⟩)
    fun _ v _ _ _ h q => by obtain ⟨ps, q1, q2, rfl⟩ := q; exact ⟨v, ps, h, q1, q2⟩) fun _ u _ t _ h1 q => by
      obtain ⟨v, ps, h2, q1, q2⟩ := q
      exact fun X E W φ s e S F Q kk => h1.v X E W φ s e S F _ fun u' W₁ φ₁ s₁ p₁ r₁ => h2 X E W₁ φ₁ s₁ e S p₁.f _ fun v' W₂ φ₂ s₂ p₂ r₂ =>
        h _ _ _ _ q1 q2 X E W₂ φ₂ s₂ _ S p₂.f _ _ (r₁.ag p₂.ag) r₂ _ fun tk => kk _ _ _ ⟨p₂.f.toks tk, p₁.ag.trans p₂.ag, (p₁.trans p₂).vl⟩
noncomputable def T.cmp (op : CmpOp) (a b : Expr) (p : Pos) (hb : plainX b = true) (c : St → Option (Bool × St)) (h : Ok c (CmG G d fi op a b)) : T G d fi :=
  have eo : Ok (fun σ => bd (c σ) fun t σ => pu (O.val (.bool t)) σ) (EvG G d fi (.Compare a [op] [b] p)) :=
    h.bd (R := fun t ρ o ρ' => o = .val (.bool t) ∧ ρ = ρ') (fun t => .pu fun _ => ⟨rfl, rfl⟩) fun _ t _ _ _ h q => by
      obtain ⟨rfl, rfl⟩ := q
      exact fun X E W φ s e S F Q k => wpAny_Compare1 (h X E W φ s e S F Q fun W' φ' s' p' => k _ _ _ _ p' (.val rfl)) (noMark hb _)
  ⟨.Compare a [op] [b] p, _, _, c, rfl, eo, eo.mono fun _ _ _ h => h.pk, h.mono fun ρ t ρ' h X E W φ s e S F Q k => wpAny_isTrue_Compare1 (h X E W φ s e S F _ fun W' φ' s' p' => wpAny_truthy_bool (k _ _ _ p')) (noMark hb _)⟩
noncomputable def eCmp (op : CmpOp) (k : V → O → Option (Bool × List Prop)) (h : PrimC G d op k) (a b : T G d fi) (p : Pos) : T G d fi := .cmp op a.x b.x p b.pl (evC a b k) (evC_ok h a b)

noncomputable def V.bool? (v : V) : Option Bool := V.casesOn v Option.none some (fun _ => Option.none) (fun _ => Option.none) (fun _ => Option.none) (fun _ => Option.none)
theorem V.bool_of {v : V} {i : Bool} (e : v.bool? = some i) : v = .bool i := by cases v <;> cases e; rfl
noncomputable def O.val? (o : O) : Option V := O.casesOn o some fun _ => none
theorem O.val_of {o : O} {v : V} (e : o.val? = some v) : o = .val v := by cases o <;> cases e; rfl
noncomputable def eqV (x y : V) : Option Bool := V.casesOn x none (fun a => y.bool?.bind fun b => some (a == b)) (fun a => y.int?.bind fun b => some (a == b)) (fun a => y.str?.bind fun b => some (a == b)) (fun _ => none) (fun _ => none)
theorem eqV_ok {x y : V} {t : Bool} (e : eqV x y = some t) {C : Cx} {A : Around} {E : Value → Shared → Prop} {W : WS} {s : Shared} {x' y' : Value} (rx : VR W s.heap x x') (ry : VR W s.heap y y') (hu : A.units < cLine) (Q : Value → Shared → Prop) :
    (Q (.bool t) s → wpAny C.M A (compareOp .Eq x' y') Q E s) ∧ (Q (.bool (!t)) s → wpAny C.M A (compareOp .NotEq x' y') Q E s) := by
  cases x <;> first | cases e | skip
  · obtain ⟨b, e1, e⟩ := Option.bind_eq_some_iff.mp e
    cases e; rw [V.bool_of e1] at ry; cases rx; cases ry
    exact ⟨fun k => SeqAt.compareEq_reads (.bool _) (.bool _) rfl rfl hu k, fun k => SeqAt.compareNe_reads (.bool _) (.bool _) rfl rfl hu k⟩
  · obtain ⟨b, e1, e⟩ := Option.bind_eq_some_iff.mp e
    cases e; rw [V.int_of e1] at ry; obtain ⟨t, rfl⟩ := rx; obtain ⟨u, rfl⟩ := ry
    exact ⟨fun k => P.eq_int k, fun k => P.ne_int k⟩
  · obtain ⟨b, e1, e⟩ := Option.bind_eq_some_iff.mp e
    cases e; rw [V.str_of e1] at ry; obtain ⟨t, rfl, _⟩ := rx; obtain ⟨u, rfl, _⟩ := ry
    exact ⟨fun k => P.eq_str k, fun k => P.ne_str k⟩
theorem FS.u {X : FC} (S : FS G d X) : X.A.units + deep + 1 < cLine := by have := S.un; omega
noncomputable def kEq (x : V) (y : O) : Option (Bool × List Prop) := y.val?.bind fun y => (eqV x y).bind fun t => some (t, [])
noncomputable def kNe (x : V) (y : O) : Option (Bool × List Prop) := y.val?.bind fun y => (eqV x y).bind fun t => some (!t, [])
theorem primEq : PrimC G d .Eq kEq := by
  intro x y t ps e q X E W φ s ρ S F x' y' rx ry Q k
  obtain ⟨v, e1, e⟩ := Option.bind_eq_some_iff.mp e
  obtain ⟨u, e2, e⟩ := Option.bind_eq_some_iff.mp e
  cases e; rw [O.val_of e1] at ry
  exact (eqV_ok e2 rx ry (by have := S.u; omega) Q).1 (k s.toks)
theorem primNe : PrimC G d .NotEq kNe := by
  intro x y t ps e q X E W φ s ρ S F x' y' rx ry Q k
  obtain ⟨v, e1, e⟩ := Option.bind_eq_some_iff.mp e
  obtain ⟨u, e2, e⟩ := Option.bind_eq_some_iff.mp e
  cases e; rw [O.val_of e1] at ry
  exact (eqV_ok e2 rx ry (by have := S.u; omega) Q).2 (k s.toks)
noncomputable def eEq : T G d fi → T G d fi → Pos → T G d fi := eCmp .Eq kEq primEq
noncomputable def eNe : T G d fi → T G d fi → Pos → T G d fi := eCmp .NotEq kNe primNe
noncomputable def kOrd (f : Int → Int → Bool) (x : V) (y : O) : Option (Bool × List Prop) := y.val?.bind fun y => x.int?.bind fun i => y.int?.bind fun j => some (f i j, [])
theorem primOrd {op : CmpOp} {f : Int → Int → Bool} (h : ∀ (C : Cx) (A : Around) (E : Value → Shared → Prop) (s : Shared) (i j : Int) (t u : Tok) (Q : Value → Shared → Prop), Q (.bool (f i j)) s → wpAny C.M A (compareOp op (.int i t) (.int j u)) Q E s) : PrimC G d op (kOrd f) := by
  intro x y t ps e q X E W φ s ρ S F x' y' rx ry Q k
  obtain ⟨v, e1, e⟩ := Option.bind_eq_some_iff.mp e
  obtain ⟨i, e2, e⟩ := Option.bind_eq_some_iff.mp e
  obtain ⟨j, e3, e⟩ := Option.bind_eq_some_iff.mp e
  cases e; rw [O.val_of e1, V.int_of e3] at ry; rw [V.int_of e2] at rx
  obtain ⟨t, rfl⟩ := rx; obtain ⟨u, rfl⟩ := ry
  exact h _ _ _ _ _ _ _ _ _ (k s.toks)
noncomputable def eLt : T G d fi → T G d fi → Pos → T G d fi := eCmp .Lt (kOrd fun i j => decide (i < j)) (primOrd fun _ _ _ _ _ _ _ _ _ k => P.lt_int k)
noncomputable def eGt : T G d fi → T G d fi → Pos → T G d fi := eCmp .Gt (kOrd fun i j => decide (i > j)) (primOrd fun _ _ _ _ _ _ _ _ _ k => P.gt_int k)
end
end Mine
end

section
open PySem
set_option autoImplicit false
set_option linter.unusedVariables false
namespace Mine
open PySem.W (Looks)

noncomputable def atI {α : Type} (l : List α) (i : Int) : Option α := Int.casesOn i (fun n => l[n]?) (fun n => l.reverse[n]?)
noncomputable def atR {α : Type} (r : List α) (i : Int) : Option α := Int.casesOn i (fun n => r.reverse[n]?) (fun n => r[n]?)
theorem atR_eq {α : Type} (r : List α) (i : Int) : atR r i = atI r.reverse i := by
  cases i with
  | ofNat n => rfl
  | negSucc n => show r[n]? = r.reverse.reverse[n]?; rw [List.reverse_reverse]
noncomputable def subO (o : O) (i : Int) : Option V := O.casesOn o (fun v => V.casesOn v none (fun _ => none) (fun _ => none) (fun s => (atI s i).bind fun c => some (.str [c])) (fun l => atI l i) (fun l => atI l i)) (fun r => atR r i)
theorem atI_inv {α : Type} {l : List α} {i : Int} {v : α} (e : atI l i = some v) : ∃ k : Nat, seqIndex? i l.length = some k ∧ l[k]? = some v ∧ ((0 ≤ i ∧ k = i.toNat) ∨ (i < 0 ∧ -(l.length : Int) ≤ i ∧ k = (i + l.length).toNat)) ∧ k < l.length := by
  cases i with
  | ofNat n =>
    have e' : l[n]? = some v := e
    have hl := (List.getElem?_eq_some_iff.mp e').1
    exact ⟨n, seqIndex_of (Int.natCast_nonneg n) (Int.ofNat_lt.mpr hl), e', .inl ⟨Int.natCast_nonneg n, rfl⟩, hl⟩
  | negSucc n =>
    have e' : l.reverse[n]? = some v := e
    have hl := (List.getElem?_eq_some_iff.mp e').1
    rw [List.length_reverse] at hl
    rw [List.getElem?_reverse hl] at e'
    have hk : (Int.negSucc n + l.length).toNat = l.length - 1 - n := by omega
    exact ⟨l.length - 1 - n, by rw [← hk]; exact seqIndex_neg (by omega) (by omega), e', .inr ⟨by omega, by omega, hk.symm⟩, by omega⟩
theorem slice_plain {e : Expr} (h : plainX e = true) (o i : Value) : subscripted e false o i = operate [o, i] (getItem o i) := by
  cases e <;> first | rfl | cases h

section
variable {C : Cx} {A : Around} {E : Value → Shared → Prop} {W : WS} {s : Shared}
theorem getList {l : List V} {vs : Array Value} {n : Nat} {a : Addr} {i : Int} {t : Tok} {v : V} {Q : Value → Shared → Prop} (ho : s.heap.get? a = some (lstO vs n)) (r : VRs W s.heap l vs.toList) (hz : l.length ≤ sizeLine) (e : atI l i = some v)
    (k : ∀ v', VR W s.heap v v' → Q v' s) : wpAny C.M A (getItem (.ref a) (.int i t)) Q E s := by
  obtain ⟨j, _, h2, h3, h4⟩ := atI_inv e
  obtain ⟨v', h5, h6⟩ := r.get h2
  have hsl := sizeLine_lt
  have hs := r.size
  have h5' : vs[j]? = some v' := by rw [← Array.getElem?_toList]; exact h5
  rcases h3 with ⟨a1, rfl⟩ | ⟨a1, a2, rfl⟩
  · exact wpAny_getItem_list ⟨_, ho, rfl, _, rfl⟩ a1 (by omega) h5' (k v' h6)
  · exact wpAny_getItem_list_neg ⟨_, ho, rfl, _, rfl⟩ a1 (by rw [hs]; exact a2) (by omega) (by rw [hs]; exact h5') (k v' h6)
theorem idx_ok {o : O} {o' : Value} {i : Int} {t : Tok} {v : V} {value slice : Expr} {Q : Value → Shared → Prop} (r : BR W s.heap o o') (e : subO o i = some v) (hs : plainX slice = true) (k : ∀ v' tk, VR W s.heap v v' → Q v' { s with toks := tk }) :
    wpAny C.M A (PyProof.Rows.subscriptTail value slice o' (.int i t)) Q E s := by
  have hsl := sizeLine_lt
  cases o with
  | own r' =>
    obtain ⟨a, rfl, vs, n, h1, h2, h3⟩ := r
    exact PyProof.Rows.tail_any (T := "list") ⟨_, h1, rfl⟩ F.slot_list_getitem.lookup (getList h1 h2 (by simpa using h3) ((atR_eq r' i).symm.trans e) fun v' r => k v' s.toks r) (slice_plain hs _ _)
  | val w =>
    cases w <;> first | cases e | skip
    · rename_i z
      obtain ⟨t1, rfl, ok, hz⟩ := r
      obtain ⟨c, e0, e'⟩ := Option.bind_eq_some_iff.mp e
      cases e'
      obtain ⟨j, e1, e2, e3, e4⟩ := atI_inv e0
      refine PyProof.Rows.tail_any (T := "str") (typeIs_str s _ t1) F.slot_str_getitem.lookup (P.getItem_str (c := c) (by simp; omega) ?_ (k _ _ ?_)) (slice_plain hs _ _)
      · show (seqIndex? i (⟨z.toArray⟩ : Str).length).bind _ = _
        have : (⟨z.toArray⟩ : Str).length = z.length := by simp [Str.length]
        rw [this, e1]
        simpa using e2
      · exact ⟨_, rfl, strOk_of ok fun x hx => by simp at hx; subst hx; exact List.mem_of_getElem? e2, by show 1 ≤ sizeLine; decide⟩
    · obtain ⟨p, vs, n, rfl, _, h1, h2, h3⟩ := VR.tup r
      obtain ⟨j, e1, e2, e3, e4⟩ := atI_inv (show atI _ i = some v from e)
      obtain ⟨v', e5, e6⟩ := h3.get e2
      exact PyProof.Rows.tail_any (T := "tuple") ⟨_, h1, rfl⟩ F.slot_tuple_getitem.lookup (P.getItem_tuple h1 (by omega) (by omega) (by rw [h3.size]; exact e1) (by rw [← Array.getElem?_toList]; exact e5) (k _ s.toks e6)) (slice_plain hs _ _)
    · obtain ⟨p, vs, n, rfl, _, h1, h2, h3⟩ := VR.lst r
      exact PyProof.Rows.tail_any (T := "list") ⟨_, h1, rfl⟩ F.slot_list_getitem.lookup (getList h1 h3 h2 (show atI _ i = some v from e) fun v' r => k v' s.toks r) (slice_plain hs _ _)
end

section
variable {G : Gl} {d : Nat} {fi : FI}
noncomputable def item (f : Bool) (o : O) (y : V) (σ : St) : Option (O × St) := y.int?.bind fun i => Bool.casesOn f (rt ((subO o i).bind fun v => some (O.val v, [])) σ) (told Tk.r? (fun _ o' => (subO o i).bind (fun v => some (O.val v)) = some o') id (fun _ ρ => ρ) σ)
def ItS (o : O) (y : V) (ρ : Loc) (o' : O) (ρ' : Loc) : Prop := ∃ i v, y = .int i ∧ subO o i = some v ∧ o' = .val v ∧ ρ = ρ'
theorem item_ok {f : Bool} {o : O} {y : V} : Ok (item f o y) (ItS o y) := by
  intro σ a σ' e h
  obtain ⟨i, e1, e⟩ := Option.bind_eq_some_iff.mp e
  cases f with
  | false => exact Ok.rt (S := ItS o y) (fun a p ρ e q => by obtain ⟨v, e2, e⟩ := Option.bind_eq_some_iff.mp e; cases e; exact ⟨i, v, V.int_of e1, e2, rfl, rfl⟩) σ a σ' e h
  | true => exact Ok.told (S := ItS o y) (f := Tk.r?) (p := fun _ o' => (subO o i).bind (fun v => some (O.val v)) = some o') (r := id) (ρ := fun _ ρ => ρ) (fun b ρ q => by obtain ⟨v, e2, e⟩ := Option.bind_eq_some_iff.mp q; cases e; exact ⟨i, v, V.int_of e1, e2, rfl, rfl⟩) σ a σ' e h
noncomputable def eIdx (f : Bool) (a k : T G d fi) (p : Pos) : T G d fi :=
  .mk' (.Subscript a.x k.x p) (fun σ => bd (a.ev σ) fun x σ => bd (k.ev σ) fun y σ => item f (.val x.frz) y.frz σ) rfl
    (a.eo.bd (R := fun x ρ o ρ' => ∃ y i v, EvG G d fi k.x ρ y ρ' ∧ y.frz = .int i ∧ subO (.val x.frz) i = some v ∧ o = .val v) (fun x => k.eo.bd (fun y => item_ok (f := f) (o := .val x.frz) (y := y.frz)) fun _ y _ _ _ h q => by
      obtain ⟨i, v, e1, e2, e3, rfl⟩ := q; exact ⟨y, i, v, h, e1, e2, e3⟩) fun _ x _ _ _ h q => by
      obtain ⟨y, i, v, hk, e1, e2, rfl⟩ := q
      intro X E W φ s e S F Q kk
      refine PyProof.Rows.Subscript_ (h.v X E W φ s e S F _ fun x' W₁ φ₁ s₁ p₁ r₁ => hk.v X E W₁ φ₁ s₁ e S p₁.f _ fun y' W₂ φ₂ s₂ p₂ r₂ => ?_)
      rw [e1] at r₂
      obtain ⟨t, rfl⟩ := r₂
      exact idx_ok (show BR W₂ s₂.heap (.val x.frz) x' from r₁.ag p₂.ag) e2 k.pl fun v' tk r => kk _ _ _ _ ⟨p₂.f.toks tk, p₁.ag.trans p₂.ag, (p₁.trans p₂).vl⟩ (.val r)) fun _ => rfl
theorem Val.uniq {env : Env} {h : Heap} {x : Str} {v w : Value} (p : Val env h x v) (q : Val env h x w) : v = w := by
  rcases p with ⟨p, m, ⟨o1, es1, ep1, p1, p2, p3, p4⟩, p5⟩ | ⟨p, c1, p1, o1, p2, p3⟩ <;> rcases q with ⟨q, m', ⟨o2, es2, ep2, q1, q2, q3, q4⟩, q5⟩ | ⟨q, c2, q1, o2, q2, q3⟩
  · rw [p1] at q1; cases q1; rw [p2] at q2; cases q2
    rw [← p4, q4, q5] at p5; exact (Option.some.inj p5).symm
  · rcases q with q | q <;> rw [p] at q <;> cases q
  · rcases p with p | p <;> rw [q] at p <;> cases p
  · rw [p1] at q1; cases q1; rw [p2] at q2; cases q2; rw [p3] at q3; exact Option.some.inj (Data.cell.inj q3)
theorem still {x : Str} {i : Nat} {X : FC} {W : WS} {φ : Nat → List Addr} {s : Shared} {ρ : Loc} {o : O} {v' : Value} (F : At X W φ s ρ) (h1 : X.fi.tbl.lookup x = some i) (hk : X.env.kindOf x ≠ none) (hv : Val X.env s.heap x v') (e : ρ[i]? = some (some o)) : OR W s.heap (φ i) o v' := by
  obtain ⟨w, a, b⟩ := F.lr x i h1 o e hk
  rw [hv.uniq a]; exact b
noncomputable def eIdxV (f : Bool) (x : Str) (i : Nat) (xp : Pos) (k : T G d fi) (p : Pos) (h : fi.isVar x i = true) : T G d fi :=
  .mk' (.Subscript (.Name x xp) k.x p) (fun σ => (slot σ.ρ i).bind fun _ => bd (k.ev σ) fun y σ => (slot σ.ρ i).bind fun o => item f o y.frz σ) rfl (by
    intro σ a σ' e q
    obtain ⟨o0, e0, e⟩ := Option.bind_eq_some_iff.mp e
    obtain ⟨⟨y, σ₁⟩, e1, e⟩ := Option.bind_eq_some_iff.mp e
    obtain ⟨o, e2, e⟩ := Option.bind_eq_some_iff.mp e
    obtain ⟨q1, j, v, h1, h2, rfl, h3⟩ := item_ok _ _ _ e q
    obtain ⟨q2, hk⟩ := k.eo σ y σ₁ e1 q1
    refine ⟨q2, fun X E W φ s ef S F Q kk => PyProof.Rows.Subscript_ (load_ok S F (ef ▸ h) (slot_some e0) fun x' hx hn hv r => hk.v X E W φ s ef S F _ fun y' W₂ φ₂ s₂ p₂ r₂ => ?_)⟩
    dsimp only at h1; rw [h1] at r₂
    obtain ⟨t, rfl⟩ := r₂
    rw [← h3] at kk
    exact idx_ok (still p₂.f hx hn (p₂.vl _ _ hv) (slot_some e2)).br h2 k.pl fun v' tk r => kk _ _ _ _ ⟨p₂.f.toks tk, p₂.ag, p₂.vl⟩ (.val r)) fun _ => rfl

theorem BR.list {W : WS} {h : Heap} {o : O} {v' : Value} {l : List V} (r : BR W h o v') (e : o.frz = .lst l) : ∃ a vs n, v' = .ref a ∧ h.get? a = some (lstO vs n) ∧ l.length ≤ sizeLine ∧ VRs W h l vs.toList := by
  cases o with
  | own r' => cases e; obtain ⟨a, rfl, vs, n, h1, h2, h3⟩ := r; exact ⟨a, vs, n, rfl, h1, by simpa using h3, h2⟩
  | val v => cases (show v = .lst l from e); obtain ⟨a, vs, n, e1, _, e2, e3, e4⟩ := VR.lst r; exact ⟨a, vs, n, e1, e2, e3, e4⟩
noncomputable def nilO (o : O) : Option Bool := O.casesOn o (fun v => v.lst?.bind fun l => some l.isEmpty) (fun r => some r.isEmpty)
theorem nilO_of {o : O} {t : Bool} (e : nilO o = some t) : ∃ l, o.frz = .lst l ∧ l.isEmpty = t := by
  cases o with
  | own r => cases e; exact ⟨_, rfl, List.isEmpty_reverse⟩
  | val v => obtain ⟨l, e1, e⟩ := Option.bind_eq_some_iff.mp e; cases e; exact ⟨l, V.lst_of e1, rfl⟩
theorem nil_cmp {C : Cx} {A : Around} {E : Value → Shared → Prop} {W : WS} {s : Shared} {l : List V} {a b : Addr} {vs ws : Array Value} {n m : Nat} (h1 : s.heap.get? a = some (lstO vs n)) (r1 : vs.size = l.length) (h2 : s.heap.get? b = some (lstO ws m)) (r2 : ws.size = 0) (hu : A.units < cLine) (Q : Value → Shared → Prop) :
    (Q (.bool l.isEmpty) s → wpAny C.M A (compareOp .Eq (.ref a) (.ref b)) Q E s) ∧ (Q (.bool (!l.isEmpty)) s → wpAny C.M A (compareOp .NotEq (.ref a) (.ref b)) Q E s) := by
  cases l with
  | nil =>
    have r1 : vs.size = 0 := r1
    refine ⟨fun k => ?_, fun k => ?_⟩
    · have z := SeqAt.RcAt.lists (A := A) (s := s) (e := fun _ => true) ⟨_, h1, rfl, _, rfl⟩ ⟨_, h2, rfl, _, rfl⟩ (r1.trans r2.symm) hu (fun j j1 => by rw [r1] at j1; cases j1)
      rw [r1] at z; exact z _ _ E Q k
    · have z := SeqAt.RcNeAt.lists (A := A) (s := s) (e := fun _ => true) ⟨_, h1, rfl, _, rfl⟩ ⟨_, h2, rfl, _, rfl⟩ (r1.trans r2.symm) hu (fun j j1 => by rw [r1] at j1; cases j1)
      rw [r1] at z; exact z _ _ E Q k
  | cons v l =>
    have hne : (vs.size != ws.size) = true := by rw [r1, r2]; rfl
    exact ⟨fun k => SeqAt.RcAt.lists_lengths (A := A) (s := s) ⟨_, h1, rfl, _, rfl⟩ ⟨_, h2, rfl, _, rfl⟩ hne (by omega) _ _ E Q k, fun k => SeqAt.RcNeAt.lists_lengths (A := A) (s := s) ⟨_, h1, rfl, _, rfl⟩ ⟨_, h2, rfl, _, rfl⟩ hne (by omega) _ _ E Q k⟩
theorem nil_core (a : T G d fi) (ne : Bool) (lp : Pos) : Ok (fun σ => bd (a.pk σ) fun x σ => rt ((nilO x).bind fun t => some (t != ne, [])) σ) (CmG G d fi (Bool.casesOn ne .Eq .NotEq) a.x (.List [] lp)) :=
  a.po.bd (R := fun x ρ t ρ' => ∃ l, x.frz = .lst l ∧ t = (l.isEmpty != ne) ∧ ρ = ρ') (fun x => .rt fun t ps ρ e q => by
    obtain ⟨u, e1, e⟩ := Option.bind_eq_some_iff.mp e; cases e; obtain ⟨l, e2, rfl⟩ := nilO_of e1; exact ⟨l, e2, rfl, rfl⟩) fun _ x _ t _ h q => by
      obtain ⟨l, e2, rfl, rfl⟩ := q
      intro X E W φ s e S F Q k
      refine h X E W φ s e S F _ fun x' W' φ' s' p' r' => wpAny_List (wpAny_pure ⟨Nat.zero_le _, ?_⟩)
      obtain ⟨b, vs, n, rfl, e3, e4, e5⟩ := r'.list e2
      have hk : ∀ a o, s'.heap.get? a = some o → (s'.heap.push (lstO ([] : List Value).toArray 0)).get? a = some o := fun _ _ q => Heap.get?_push_of_some _ q
      have fin : Q (.bool (l.isEmpty != ne)) { s' with heap := s'.heap.push (lstO ([] : List Value).toArray 0) } := k _ _ _ (p'.trans (.gs p'.f (Gs.of (t := s'.toks) p'.f.f.wf hk)))
      have z := nil_cmp (C := X.C) (A := X.A) (E := E) (W := W') (s := { s' with heap := s'.heap.push (lstO ([] : List Value).toArray 0) }) (hk _ _ e3) e5.size (Heap.get?_push_size _ rfl) rfl (by have := S.u; omega) Q
      cases ne
      · exact z.1 (by simpa using fin)
      · exact z.2 (by simpa using fin)
noncomputable def eNil (ne : Bool) (a : T G d fi) (lp p : Pos) : T G d fi := .cmp _ a.x (.List [] lp) p rfl _ (nil_core a ne lp)
end
end Mine
end

section
open PySem
set_option autoImplicit false
set_option linter.unusedVariables false
namespace Mine
open PySem.W (Looks keepIn)

theorem boot_len : bootBuiltins "len" = some (.builtin "len") := by kernel_rfl
theorem boot_isinstance : bootBuiltins "isinstance" = some (.builtin "isinstance") := by kernel_rfl
theorem boot_list : bootBuiltins "list" = some (.type "list") := by kernel_rfl
theorem boot_tuple : bootBuiltins "tuple" = some (.type "tuple") := by kernel_rfl
theorem boot_range : bootBuiltins "range" = some (.type "range") := by kernel_rfl
theorem boot_reversed : bootBuiltins "reversed" = some (.type "reversed") := by kernel_rfl
noncomputable def Ty.s (t : Ty) : Str := Ty.rec "tuple" "str" "int" "bool" "list" t
theorem boot_ty (t : Ty) : bootBuiltins t.s = some (.type t.n) := by
  cases t
  · exact boot_tuple
  · show bootBuiltins "str" = some (.type "str"); kernel_rfl
  · show bootBuiltins "int" = some (.type "int"); kernel_rfl
  · show bootBuiltins "bool" = some (.type "bool"); kernel_rfl
  · exact boot_list
abbrev KeepsIt (M : Model) (h : Heap) (f : Value) : Prop := ∃ k, (k = Keeper.frame ∨ k = Keeper.machine ∨ k = Keeper.boundFrame) ∧ Looks M h (keeperOf f) k
theorem keeper_builtin (M : Model) (h : Heap) (id : String) : KeepsIt M h (.builtin id) := ⟨.machine, .inr (.inl rfl), Looks.of_pure rfl⟩
theorem keeper_type (M : Model) (h : Heap) (id : String) : KeepsIt M h (.type id) := ⟨.machine, .inr (.inl rfl), Looks.of_pure rfl⟩

section
variable {M : Model} {A : Around} {E : Value → Shared → Prop} {s : Shared} {env : Env}
theorem callW {K : PySem.W.Frag} {f : Value} {pos : Pos} {first : List Value} {xs : List Expr} {Q : Value → Shared → Prop} (hk : ∀ h, K.In h → KeepsIt M h f)
    (h : wpAny M A (spliced (plainArgs xs env)) (fun vs s₁ => K.In s₁.heap ∧ wpAny M A (call f (first ++ vs)) Q E s₁) E s) : wpAny M A (callWith pos f first (plainArgs xs env) []) Q E s := by
  refine PySem.W.callWith_of (P := K.In) (by rw [show (plainArgs xs env).any (·.1) = false by simp [plainArgs]]; rfl) hk ?_
  cases xs with
  | nil =>
    unfold evalArgs
    show wpAny _ _ (spliced [] >>= _) _ _ _
    refine wpAny_bind (wpAny_mono h (fun vs s' h' => ?_) fun _ _ x => x)
    refine wpAny_holding ?_
    exact wpAny_bind (wpAny_pure (wpAny_bind (wpAny_pure (wpAny_pure h'))))
  | cons x xs => exact PySem.Calls.evalArgs_plain h
theorem method_call {o : Expr} {m : Str} {ap p : Pos} {xs : List Expr} {Q : Value → Shared → Prop} (hs : attributeBase o m env (eval o env) = eval o env) (hp : ∀ x, x ∈ xs → plainX x = true) (hl : (ap.endLine == p.line) = true) (hn : Nat.blt xs.length 30 = true)
    (h : ∀ pl, wpAny M A (eval o env) (fun ov s₁ => wpAny M A (getMethod ov m pl) (fun fx s₂ => wpAny M A (callWith p fx.1 fx.2 (plainArgs xs env) []) Q E s₂) E s₁) E s) : wpAny M A (eval (.Call (.Attribute o m ap) xs [] p) env) Q E s := by
  rw [arm_eval_Call, hs]
  refine wpAny_bind (wpAny_mono (h (do return (← importBound o env).getD true)) (fun ov s₁ h₁ => wpAny_bind (wpAny_standAt ?_)) fun _ _ x => x)
  rw [starEach_plain hp, backTo_plain]
  unfold methodCall
  have hf : methodCallForm (xs.length + ([] : List Keyword).length) (plainArgs xs env) (backToKw p (keywordEach [] env)) = true := by
    have : xs.length < 30 := Nat.le_of_ble_eq_true hn
    simp [methodCallForm, plainArgs, keywordEach, backToKw, this]
  rw [hf]
  refine wpAny_bind (wpAny_holding ?_)
  unfold calleeOf
  rw [if_pos rfl]
  refine wpAny_mono h₁ (fun fx s₂ h₂ => ?_) fun _ _ x => x
  unfold methodCallPos
  refine wpAny_bind ?_
  rw [if_pos (by rw [beq_iff_eq.mp hl]; simp)]
  exact wpAny_pure h₂
end

section
variable {G : Gl} {d : Nat} {fi : FI}
def Prim1 (G : Gl) (d : Nat) (f : Value) (k : O → Option (O × List Prop)) : Prop :=
  ∀ x o ps, k x = some (o, ps) → All ps → ∀ (X : FC) (E : Value → Shared → Prop) (W : WS) (φ : Nat → List Addr) (s : Shared) (ρ : Loc), FS G d X → At X W φ s ρ → ∀ x', BR W s.heap x x' → ∀ Q, Aft W s Q o → wpAny X.C.M X.A (call f [x']) Q E s
noncomputable def eBi (x : Str) (f : Value) (hf : bootBuiltins x = some f) (hk : ∀ M h, KeepsIt M h f) (k : O → Option (O × List Prop)) (h : Prim1 G d f k) (a : T G d fi) (p' p : Pos) (hb : isBi G fi x = true) : T G d fi :=
  .mk' (.Call (.Name x p') [a.x] [] p) (fun σ => bd (a.pk σ) fun x σ => rt (k x) σ) rfl
    (a.po.bd (R := fun x ρ o ρ' => ∃ ps, k x = some (o, ps) ∧ All ps ∧ ρ = ρ') (fun x => .rt fun o ps ρ e q => ⟨ps, e, q, rfl⟩) fun _ x _ _ _ hx q => by
      obtain ⟨ps, q1, q2, rfl⟩ := q
      intro X E W φ s e S F Q kk
      refine PyProof.Rows.Call_ (bi_ok S F (e ▸ hb) hf ?_)
      rw [starEach_plain (xs := [a.x]) (fun y q => by cases List.mem_singleton.mp q; exact a.pl), backTo_plain]
      refine callW (K := X.C.K) (fun h _ => hk _ h) (PySem.Calls.spliced_cons (hx X E W φ s e S F _ fun x' W' φ' s' p' r' => PySem.Calls.spliced_nil ⟨p'.f.In S, ?_⟩))
      exact h _ _ _ q1 q2 X E W' φ' s' _ S p'.f _ r' _ (Aft.of p' kk)) fun _ => rfl
noncomputable def lenO (o : O) : Option Nat := O.casesOn o (fun v => V.casesOn v none (fun _ => none) (fun _ => none) (fun s => some s.length) (fun l => some l.length) (fun l => some l.length)) (fun r => some r.length)
theorem primLen : Prim1 G d (.builtin "len") fun x => (lenO x).bind fun n => some (.val (.int n), []) := by
  intro x o ps e q X E W φ s ρ S F x' r Q k
  have hsl := sizeLine_lt
  obtain ⟨n, e1, e⟩ := Option.bind_eq_some_iff.mp e
  cases e
  have lst : ∀ {l : List V} {a : Addr} {vs : Array Value} {m : Nat}, s.heap.get? a = some (lstO vs m) → VRs W s.heap l vs.toList → l.length ≤ sizeLine → l.length = n → wpAny X.C.M X.A (call (.builtin "len") [.ref a]) Q E s := fun h1 h3 h2 e => by
    have hs := h3.size
    refine Calls.call_len_list ⟨_, h1, rfl, _, rfl⟩ (by rw [hs]; omega) ?_
    rw [hs, e]; exact k.here F.f.wf ⟨_, rfl⟩
  cases x with
  | own r' => cases e1; obtain ⟨a, rfl, vs, m, h1, h2, h3⟩ := r; exact lst h1 h2 (by simpa using h3) (by simp)
  | val v =>
    cases v <;> first | cases e1 | skip
    · rename_i z
      obtain ⟨t, rfl, ok, hz⟩ := r
      have hlen : (⟨z.toArray⟩ : Str).length = z.length := by simp [Str.length]
      refine P.len_str (by rw [hlen]; omega) ?_
      rw [hlen]; exact k.here F.f.wf ⟨_, rfl⟩
    · obtain ⟨p, vs, m, rfl, _, h1, h2, h3⟩ := VR.tup r
      have hs := h3.size
      refine P.len_tuple h1 (by rw [hs]; omega) ?_
      rw [hs]; exact k.here F.f.wf ⟨_, rfl⟩
    · obtain ⟨p, vs, m, rfl, _, h1, h2, h3⟩ := VR.lst r
      exact lst h1 h3 h2 rfl
noncomputable def eLen : T G d fi → Pos → Pos → isBi G fi "len" = true → T G d fi := eBi "len" (.builtin "len") boot_len (fun M h => keeper_builtin M h _) _ primLen
theorem primListT : Prim1 G d (.type "list") fun x => x.val?.bind fun v => v.tup?.bind fun l => some (.own l.reverse, []) := by
  intro x o ps e q X E W φ s ρ S F x' r Q k
  obtain ⟨v, e1, e⟩ := Option.bind_eq_some_iff.mp e
  obtain ⟨l, e2, e⟩ := Option.bind_eq_some_iff.mp e
  cases e
  rw [O.val_of e1, V.tup_of e2] at r
  obtain ⟨p, vs, m, rfl, _, h1, h2, h3⟩ := VR.tup r
  exact call_list_seq p (T := "tuple") (.inr rfl) h1 rfl rfl (fun h' c' hk ho => k.listAt (t := s.toks) F.f.wf hk (fresh_size _) ho (by rw [List.reverse_reverse]; exact h3) (by rwa [List.length_reverse])) (by rw [h3.size]; exact h2)
noncomputable def eListT : T G d fi → Pos → Pos → isBi G fi "list" = true → T G d fi := eBi "list" (.type "list") boot_list (fun M h => keeper_type M h _) _ primListT
noncomputable def listO (o : O) : Option (List V) := O.casesOn o (fun v => v.lst?) (fun r => some r.reverse)
theorem listO_of {o : O} {l : List V} (e : listO o = some l) : o.frz = .lst l := by
  cases o with
  | own r => cases e; rfl
  | val v => exact V.lst_of e
theorem primTup : Prim1 G d (.type "tuple") fun x => (listO x).bind fun l => some (.val (.tup l), []) := by
  intro x o ps e q X E W φ s ρ S F x' r Q k
  obtain ⟨l, e1, e⟩ := Option.bind_eq_some_iff.mp e
  cases e
  obtain ⟨a, vs, n, rfl, h1, h2, h3⟩ := r.list (listO_of e1)
  refine call_tuple_list ⟨_, h1, rfl, _, rfl⟩ (fun h' hk => ?_) (by rw [h3.size]; exact h2)
  have g := Gs.of (t := s.toks) F.f.wf hk
  have k' : Aft W { s with heap := h' } Q (.val (.tup l)) := fun v' W' s' g' r => k v' W' s' ⟨g.g.trans g'.g, g'.gens, g'.os⟩ r
  exact k'.tuple (t := s.toks) (fun a q => by obtain ⟨o, e⟩ := F.f.wf a q; exact ⟨o, hk a o e⟩) (VRs.ag (g.g.ag F.f.wf) h3) h2
noncomputable def eTupL : T G d fi → Pos → Pos → isBi G fi "tuple" = true → T G d fi := eBi "tuple" (.type "tuple") boot_tuple (fun M h => keeper_type M h _) _ primTup

noncomputable def kindO (o : O) : Kd := O.casesOn o (fun v => V.casesOn v .none (fun _ => .bool) (fun _ => .int) (fun _ => .str) (fun _ => .tup) (fun _ => .list)) (fun _ => .list)
theorem isi_ok {X : FC} {W : WS} {φ : Nat → List Addr} {s : Shared} {ρ : Loc} {E : Value → Shared → Prop} {a : O} {a' : Value} {t : Ty} {Q : Value → Shared → Prop} (S : FS G d X) (F : At X W φ s ρ) (r : BR W s.heap a a') (ht : t ∈ G.ty)
    (fin : ∀ tk, Q (.bool (isiK (kindO a) t)) { s with toks := tk }) : wpAny X.C.M X.A (call (.builtin "isinstance") [a', .type t.n]) Q E s := by
  have K := F.In S
  have e0 := fun k => S.g.isi k t ht
  cases a with
  | own r' => obtain ⟨p, rfl, vs, n, h1, _⟩ := r; exact PySem.W.kia_one PySem.W.kitx_list K ⟨_, h1, rfl⟩ (e0 .list) (by simp) fin
  | val v =>
    cases v with
    | none => cases r; exact PySem.W.kia_one PySem.W.kitx_none K trivial (e0 .none) (by simp) fin
    | bool b => cases r; exact PySem.W.kia_one PySem.W.kitx_bool K trivial (e0 .bool) (by simp) fin
    | int i => obtain ⟨_, rfl⟩ := r; exact PySem.W.kia_one PySem.W.kitx_int K trivial (e0 .int) (by simp) fin
    | str z => obtain ⟨_, rfl, _⟩ := r; exact PySem.W.kia_one PySem.W.kitx_str K trivial (e0 .str) (by simp) fin
    | tup l => obtain ⟨p, vs, m, rfl, _, h1, _⟩ := VR.tup r; exact PySem.W.kia_one PySem.W.kitx_tuple K ⟨_, h1, rfl⟩ (e0 .tup) (by simp) fin
    | lst l => obtain ⟨p, vs, m, rfl, _, h1, _⟩ := VR.lst r; exact PySem.W.kia_one PySem.W.kitx_list K ⟨_, h1, rfl⟩ (e0 .list) (by simp) fin
noncomputable def eIsi (a : T G d fi) (t : Ty) (p' p'' p : Pos) (h : (isBi G fi "isinstance" && isBi G fi t.s && G.ty.contains t) = true) : T G d fi :=
  .mk' (.Call (.Name "isinstance" p') [a.x, .Name t.s p''] [] p) (fun σ => bd (a.pk σ) fun x σ => pu (.val (.bool (isiK (kindO x) t))) σ) rfl
    (a.po.bd (R := fun x ρ o ρ' => o = .val (.bool (isiK (kindO x) t)) ∧ ρ = ρ') (fun x => .pu fun _ => ⟨rfl, rfl⟩) fun _ x _ _ _ hx q => by
      obtain ⟨rfl, rfl⟩ := q
      rw [Bool.and_eq_true, Bool.and_eq_true, List.contains_iff_mem] at h
      intro X E W φ s e S F Q kk
      refine PyProof.Rows.Call_ (bi_ok S F (e ▸ h.1.1) boot_isinstance ?_)
      rw [starEach_plain (xs := [a.x, .Name t.s p'']) (fun y q => by
        rcases List.mem_cons.mp q with rfl | q
        · exact a.pl
        · cases List.mem_singleton.mp q; rfl), backTo_plain]
      refine callW (K := X.C.K) (fun h _ => keeper_builtin _ h _) (PySem.Calls.spliced_cons (hx X E W φ s e S F _ fun x' W' φ' s' p' r' => PySem.Calls.spliced_cons (bi_ok S p'.f (e ▸ h.1.2) (boot_ty t) (PySem.Calls.spliced_nil ⟨p'.f.In S, ?_⟩))))
      exact isi_ok S p'.f r' h.2 fun tk => kk _ _ _ _ ⟨p'.f.toks tk, p'.ag, p'.vl⟩ (.val rfl)) fun _ => rfl

def CallOK (G : Gl) (d : Nat) (a : Addr) (args : List V) (o : O) : Prop := ∀ (C : Cx) (A : Around) (W : WS) (s : Shared) (vals : List Value) (R : Result → Shared → Prop), GOk G C → A.handled = none → A.depth + 2 * d + 9 ≤ recursionLimit → A.units + 20 * d + deep + 90 < cLine →
  (∀ b o, C.h.get? b = some o → s.heap.get? b = some o) → s.gens = #[] → s.os = C.os → (∀ a, W a → ∃ o, s.heap.get? a = some o) → VRs W s.heap args vals → Aft W s (fun v' s' => R (.ok (.ret v')) s') o → codeAny C.M A (.call (.ref a) ⟨vals, []⟩) R s
noncomputable def eCall (x : Str) (a : Addr) (r : Rw G d fi) (p' p : Pos) (h : (fi.isGlob x && (G.fn.lookup x == some a)) = true) : T G d fi :=
  .mk' (.Call (.Name x p') r.xs [] p) (fun σ => bd (r.ev σ) fun vs σ => told Tk.r? (fun _ o => CallOK G d a vs o) id (fun _ ρ => ρ) σ) rfl
    (r.eo.bd (R := fun vs ρ o ρ' => CallOK G d a vs o ∧ ρ = ρ') (fun vs => Ok.told (f := Tk.r?) (p := fun _ o => CallOK G d a vs o) (r := id) (ρ := fun _ ρ => ρ) fun o ρ q => ⟨q, rfl⟩) fun _ vs _ o _ hs q => by
      obtain ⟨q, rfl⟩ := q
      rw [Bool.and_eq_true, beq_iff_eq] at h
      intro X E W φ s e S F Q kk
      obtain ⟨g1, g2⟩ := S.g.fn x a h.2
      refine PyProof.Rows.Call_ (glob_ok S F (e ▸ h.1) g1 ?_)
      rw [r.back]
      refine callW (K := X.C.K) (fun h hX => PySem.W.keeps_K g2 h hX) (hs.2 X E W φ s e S F _ fun vs' W' φ' s' p' r' => ⟨p'.f.In S, wpAny_call ?_⟩)
      exact q X.C X.A W' s' _ _ S.g S.hd (by have := S.dp; omega) (by have := S.un; omega) (p'.f.keep S) p'.f.gens p'.f.os p'.f.f.wf r' (Aft.of p' kk)) fun _ => rfl
end
end Mine
end

section
open PySem
set_option autoImplicit false
set_option linter.unusedVariables false
namespace Mine
open PySem.W (Looks keepIn)

def asI : Option Nat → Option Int := Option.map fun n => (n : Int)
noncomputable def cut {α : Type} (l : List α) (lo hi : Option Nat) : List α := (Option.casesOn hi l fun h => l.take h : List α).drop (Option.casesOn lo 0 id)
section
variable {M : Model} {A : Around} {E : Value → Shared → Prop} {s : Shared}
theorem wpAny_slicePartIndex {v : Value} {k : Option Int} {Q : Option Int → Shared → Prop} (hv : IsPart v k) (h : Q k s) : wpAny M A (Builtin.Slice.slicePartIndex v) Q E s := by
  cases hv with
  | none => exact wpAny_pure h
  | int i t =>
    unfold Builtin.Slice.slicePartIndex
    rw [if_neg (show ¬ ((Value.int i t == Value.none) = true) from Bool.false_ne_true)]
    refine wpAny_bind (wpAny_specialOf (T := "int") (typeIs_int s i t) F.slot_int_index.lookup ?_)
    simp only [Option.isNone_some, Bool.false_eq_true, if_false]
    exact wpAny_bind (wpAny_of_eq (a := i) rfl (wpAny_pure h))
end
theorem cut_eq {α : Type} (l : List α) (lo hi : Option Nat) : cut l lo hi = (l.drop (min (lo.getD 0) l.length)).take (min (hi.getD l.length) l.length - min (lo.getD 0) l.length) := by
  have e : ∀ a : Nat, (lo.getD 0) = a → cut l lo hi = (Option.casesOn hi l fun h => l.take h : List α).drop a := by intro a h; subst h; cases lo <;> rfl
  rw [e _ rfl]
  generalize lo.getD 0 = a
  cases hi with
  | none =>
    show l.drop a = _
    simp only [Option.getD_none, Nat.min_self]
    rw [List.take_of_length_le (by rw [List.length_drop]; omega)]
    by_cases h : a ≤ l.length
    · rw [Nat.min_eq_left h]
    · rw [Nat.min_eq_right (by omega), List.drop_of_length_le (by omega), List.drop_of_length_le (Nat.le_refl _)]
  | some b =>
    show (l.take b).drop a = _
    simp only [Option.getD_some]
    by_cases h : a ≤ l.length
    · rw [Nat.min_eq_left h, List.drop_take]
      by_cases h2 : b ≤ l.length
      · rw [Nat.min_eq_left h2]
      · rw [Nat.min_eq_right (by omega), List.take_of_length_le (by rw [List.length_drop]; omega), List.take_of_length_le (by rw [List.length_drop]; omega)]
    · have h3 : min a l.length = l.length := by omega
      rw [h3, List.drop_of_length_le (by rw [List.length_take]; omega), List.drop_of_length_le (Nat.le_refl _)]; simp
theorem slicePick_cut (items : Array Value) (lo hi : Option Nat) : slicePick items (asI lo) (asI hi) none = (cut items.toList lo hi).toArray := by
  rw [slicePick_plain, cut_eq]
  cases lo <;> cases hi <;> simp [asI, clipAt_nat]
theorem cut_length_le {α : Type} (l : List α) (lo hi : Option Nat) : (cut l lo hi).length ≤ l.length := by
  rw [cut_eq, List.length_take, List.length_drop]; omega
theorem VRs.cut {W : WS} {h : Heap} {l : List V} {l' : List Value} (r : VRs W h l l') (lo hi : Option Nat) : VRs W h (Mine.cut l lo hi) (Mine.cut l' lo hi) := by
  unfold Mine.cut
  cases hi with
  | none => exact r.drop _
  | some n => exact (r.take n).drop _
theorem str_cut (z : List Nat) (lo hi : Option Nat) : (Builtin.Str.strSliceIndices (asI lo) (asI hi) 1 z.length).filterMap (z.toArray[·]?) = Mine.cut z lo hi ∧ (Builtin.Str.strSliceIndices (asI lo) (asI hi) 1 z.length).length = (Mine.cut z lo hi).length := by
  have h : Builtin.Str.strSliceIndices (asI lo) (asI hi) 1 z.length = sliceRange (sliceBounds (asI lo) (asI hi) none z.length).1 (sliceBounds (asI lo) (asI hi) none z.length).2.1 1 := by
    cases lo <;> cases hi <;> rfl
  rw [h, sliceBounds_plain]
  simp only
  rw [sliceRange_one, pick_run, cut_eq, List.length_map, List.length_range, List.length_take, List.length_drop]
  cases lo <;> cases hi <;> simp [asI, clipAt_nat] <;> omega

def PR (x : Option Int) (v : Value) : Prop := Option.casesOn x (v = .none) fun i => ∃ t, v = .int i t
noncomputable def bds (x : Option Int) : Option Nat := Option.casesOn x none fun i => some i.toNat
noncomputable def bdo (x : Option Int) (ps : List Prop) : List Prop := Option.casesOn x ps fun i => (0 ≤ i ∧ i ≤ 1000000) :: ps
theorem bdo_all {x : Option Int} {ps : List Prop} (h : All (bdo x ps)) : All ps ∧ ∀ v, PR x v → IsPart v (asI (bds x)) ∧ ∃ q : Option (Int × Tok), v = partValue q ∧ q.map (·.1) = asI (bds x) := by
  cases x with
  | none => exact ⟨h, fun v r => by cases r; exact ⟨.none, none, rfl, rfl⟩⟩
  | some i =>
    have h1 : 0 ≤ i := h.1.1
    have e : asI (bds (some i)) = some i := congrArg some (Int.toNat_of_nonneg h1)
    refine ⟨h.2, fun v r => ?_⟩
    obtain ⟨t, rfl⟩ := r
    rw [e]
    exact ⟨.int i t, some (i, t), rfl, rfl⟩

section
variable {G : Gl} {d : Nat} {fi : FI}
def BdG (G : Gl) (d : Nat) (fi : FI) (x : Option Expr) (ρ : Loc) (b : Option Int) (ρ' : Loc) : Prop := ∀ (X : FC) (E : Value → Shared → Prop) (W : WS) (φ : Nat → List Addr) (s : Shared), X.fi = fi → FS G d X → At X W φ s ρ →
  ∀ Q : Value → Shared → Prop, (∀ v' W' φ' s', Pst X W s W' φ' s' ρ' → PR b v' → Q v' s') → wpAny X.C.M X.A (evalPart x X.env) Q E s
structure Bd (G : Gl) (d : Nat) (fi : FI) where
  x : Option Expr
  ev : St → Option (Option Int × St)
  eo : Ok ev (BdG G d fi x)
noncomputable def dNone : Bd G d fi := ⟨none, pu none, .pu fun _ X E W φ s e S F Q k => wpAny_pure (k _ _ _ _ (.refl F) rfl)⟩
noncomputable def dSome (a : T G d fi) : Bd G d fi := ⟨some a.x, fun σ => bd (a.ev σ) fun x σ => x.frz.int?.bind fun i => pu (some i) σ,
  a.eo.bd (R := fun x ρ b ρ' => ∃ i, x.frz = .int i ∧ b = some i ∧ ρ = ρ') (fun x σ b σ' e q => by
    obtain ⟨i, e1, e⟩ := Option.bind_eq_some_iff.mp e; cases e; exact ⟨q, i, V.int_of e1, rfl, rfl⟩) fun _ x _ _ _ h q X E W φ s e S F Q k => by
      obtain ⟨i, hx, rfl, rfl⟩ := q
      exact h.v X E W φ s e S F _ fun v' W' φ' s' p' r' => k _ _ _ _ p' (by rw [hx] at r'; exact r')⟩
noncomputable def kSlc (v : V) (lo hi : Option Int) : Option (O × List Prop) := V.casesOn v none (fun _ => none) (fun _ => none) (fun z => some (.val (.str (cut z (bds lo) (bds hi))), bdo lo (bdo hi []))) (fun l => some (.val (.tup (cut l (bds lo) (bds hi))), bdo lo (bdo hi [])))
  (fun l => some (.own (cut l (bds lo) (bds hi)).reverse, bdo lo (bdo hi [])))

theorem adjust_eq (lo hi : Option Nat) (n : Nat) : Builtin.Slice.sliceAdjust (asI lo) (asI hi) 1 (n : Int) = (((min (lo.getD 0) n : Nat) : Int), ((min (hi.getD n) n : Nat) : Int)) := by
  unfold Builtin.Slice.sliceAdjust asI
  cases lo <;> cases hi <;> simp <;> omega
theorem places_eq (a b : Nat) : Builtin.Slice.slicePlaces (a : Int) (b : Int) 1 = b - a := by
  unfold Builtin.Slice.slicePlaces
  simp only [Int.zero_lt_one, if_true, gt_iff_lt]
  split <;> omega
theorem range_pick (xs : Array Value) (a k : Nat) : ((List.range k).filterMap fun (i : Nat) => xs[((a : Int) + (i : Int) * 1).toNat]?) = (xs.toList.drop a).take k := by
  rw [← pick_run xs a k, List.filterMap_map]
  congr 1
  funext i
  have : ((a : Int) + (i : Int) * 1).toNat = a + i := by omega
  rw [this]; rfl
theorem tuple_getitem_slice (l : Addr) (items : Array Value) (n : Nat) (a : Addr) (vl vu : Value) (lo hi : Option Nat) (pl : IsPart vl (asI lo)) (pu : IsPart vu (asI hi)) (hz : items.size ≤ sizeLine) :
    Meets (Builtin.«tuple.__getitem__» ⟨[.ref l, .ref a], []⟩)
      (fun _ R s => s.heap.get? l = some (tupO items n) ∧ s.heap.IsSliceOf a vl vu .none ∧ (cut items.toList lo hi = items.toList → R (.ok (.ret (.ref l))) s) ∧
        R (.ok (.ret (.ref s.heap.objs.size))) { s with heap := s.heap.push (tupO (cut items.toList lo hi).toArray 0) }) :=
  .of_wp fun prog w A R s h => by
    obtain ⟨hl, hs, h1, h2⟩ := h
    obtain ⟨os, hos, hcs, hds⟩ := id hs
    have hTs : s.TypeIs (.ref a) "slice" := ⟨os, hos, hcs⟩
    have hT : s.TypeIs (.ref l) "tuple" := ⟨_, hl, rfl⟩
    unfold Builtin.«tuple.__getitem__»
    show wpAny _ _ (Builtin.Tuple.tupleItemsOf (.ref l) >>= _) _ _ s
    refine wpAny_bind (wpAny_tupleItemsOf hl rfl ?_)
    refine wpAny_bind (wpAny_typeOf hTs ?_)
    rw [if_pos (by decide)]
    unfold Builtin.Slice.sliceApplied Builtin.Slice.sliceFields
    refine wpAny_bind (wpAny_bind (wpAny_bind (wpAny_field hos hds (x := vl) rfl (wpAny_bind (wpAny_field hos hds (x := vu) rfl (wpAny_bind (wpAny_field hos hds (x := .none) rfl (wpAny_pure ?_))))))))
    refine wpAny_bind (wpAny_slicePartIndex .none ?_)
    rw [if_neg (by decide)]
    refine wpAny_bind (wpAny_slicePartIndex pl (wpAny_bind (wpAny_slicePartIndex pu (wpAny_bind (wpAny_pure ?_)))))
    simp only [Option.getD_none]
    rw [adjust_eq]
    refine wpAny_pure ?_
    simp only [places_eq]
    have hc : ((List.range (min (hi.getD items.size) items.size - min (lo.getD 0) items.size)).filterMap fun (k : Nat) => items[(((min (lo.getD 0) items.size : Nat) : Int) + (k : Int) * 1).toNat]?) = cut items.toList lo hi := by
      rw [range_pick, cut_eq]; simp
    have fin : wpAny (model prog w) A.in1 (do let x ← Builtin.Tuple.tupleExact ((List.range (min (hi.getD items.size) items.size - min (lo.getD 0) items.size)).filterMap fun (k : Nat) => items[(((min (lo.getD 0) items.size : Nat) : Int) + (k : Int) * 1).toNat]?).toArray; ret x)
        (fun fin s' => ∃ v, fin = .done (.ret v) ∧ R (.ok (.ret v)) s') (fun e s' => R (.error e) s') s := by
      rw [hc]
      refine wpAny_bind (wpAny_newObj_type (wpAny_pure ⟨_, rfl, h2⟩) ?_)
      show (cut items.toList lo hi).toArray.size ≤ sizeLine
      rw [List.size_toArray]
      exact Nat.le_trans (cut_length_le _ _ _) (by simpa using hz)
    refine wpAny_ite ?_
    split
    · rename_i q
      simp only [Bool.and_eq_true, beq_iff_eq] at q
      refine wpAny_bind (wpAny_bind (wpAny_typeOf hT (wpAny_pure ?_)))
      rw [if_pos (by decide)]
      refine wpAny_bind (wpAny_rule (wpAny_pure ⟨_, rfl, h1 ?_⟩))
      rw [cut_eq]
      have h0 : min (lo.getD 0) items.toList.length = 0 := by have := q.1.1; simp at this ⊢; omega
      rw [h0, List.drop_zero]
      refine List.take_of_length_le ?_
      have := q.2
      simp only [Array.length_toList] at h0 ⊢
      omega
    · exact fin

theorem slc_ok {C : Cx} {A : Around} {E : Value → Shared → Prop} {W : WS} {s : Shared} {v : V} {v' vl vu : Value} {lo hi : Option Int} {o : O} {ps : List Prop} {value : Expr} {lower upper : Option Expr} {p : Pos} {Q : Value → Shared → Prop} {sl : Addr} (wf : ∀ a, W a → ∃ o, s.heap.get? a = some o) (r : VR W s.heap v v')
    (rl : PR lo vl) (ru : PR hi vu) (e : kSlc v lo hi = some (o, ps)) (hq : All ps) (hsl : s.heap.IsSliceOf sl vl vu .none) (k : Aft W s Q o) : wpAny C.M A (PyProof.Rows.subscriptTail value (.Slice lower upper none p) v' (.ref sl)) Q E s := by
  have hss := sizeLine_lt
  have hsub : ∀ o i : Value, subscripted (.Slice lower upper none p) false o i = operate [i, o] (getItem o i) := fun _ _ => rfl
  cases v <;> first | cases e | skip
  · rename_i z
    obtain ⟨hq, b1⟩ := bdo_all hq
    obtain ⟨_, ql, rfl, ql2⟩ := b1 _ rl
    obtain ⟨_, qu, rfl, qu2⟩ := (bdo_all hq).2 _ ru
    obtain ⟨t1, rfl, ok, hz⟩ := r
    generalize bds lo = nlo at *
    generalize bds hi = nhi at *
    have hcl := cut_length_le z nlo nhi
    obtain ⟨hc1, hc2⟩ := str_cut z nlo nhi
    have hpk : slicePicked ⟨z.toArray⟩ ql qu none = Builtin.Str.strSliceIndices (asI nlo) (asI nhi) 1 z.length := by
      unfold slicePicked
      rw [ql2, qu2]; simp [Str.length]
    have hok : PyData.strOk ⟨(Mine.cut z nlo nhi).toArray⟩ = true := strOk_of ok fun c hc => by
      rw [cut_eq] at hc; exact List.mem_of_mem_drop (List.mem_of_mem_take hc)
    refine PyProof.Rows.tail_any (T := "str") (typeIs_str s _ t1) F.slot_str_getitem.lookup (wpAny_getItem_str_slice (l := ql) (u := qu) (st := none) ?_ rfl ?_) (hsub _ _)
    · obtain ⟨o, a1, a2, a3⟩ := hsl; exact ⟨o, a1, a2, a3⟩
    · unfold sliceMade
      rw [hpk]
      split
      · rename_i q
        simp only [Option.map_none, Option.getD_none, beq_self_eq_true, Bool.true_and, beq_iff_eq] at q
        rw [hc2] at q
        have hcz : Mine.cut z nlo nhi = z := by
          have q : (Mine.cut z nlo nhi).length = z.length := by simpa [Str.length] using q
          rw [cut_eq, List.length_take, List.length_drop] at q
          rw [cut_eq]
          have h0 : z.length = 0 ∨ min (nlo.getD 0) z.length = 0 := by omega
          rcases h0 with h0 | h0
          · rw [List.length_eq_zero_iff.mp h0]; simp
          · rw [h0, List.drop_zero]; exact List.take_of_length_le (by omega)
        rw [hcz] at k
        exact k.here (t := s.toks) wf ⟨_, rfl, ok, hz⟩
      · have hm : ((Builtin.Str.strSliceIndices (asI nlo) (asI nhi) 1 z.length).filterMap ((⟨z.toArray⟩ : Str).cps[·]?)) = Mine.cut z nlo nhi := hc1
        rw [hm]
        exact ⟨by simp [Str.length]; omega, k.here wf ⟨_, rfl, hok, by omega⟩⟩
  · rename_i l
    obtain ⟨hq, b1⟩ := bdo_all hq
    obtain ⟨pl, _⟩ := b1 _ rl
    obtain ⟨pu, _⟩ := (bdo_all hq).2 _ ru
    obtain ⟨ad, vs, n, rfl, hw, h1, h2, h3⟩ := VR.tup r
    generalize bds lo = nlo at *
    generalize bds hi = nhi at *
    have hcr := h3.cut nlo nhi
    have hcl := cut_length_le l nlo nhi
    refine PyProof.Rows.tail_any (T := "tuple") ⟨_, h1, rfl⟩ F.slot_tuple_getitem.lookup (getItem_meets ⟨_, h1, rfl⟩ (by decide) F.slot_tuple_getitem F.entry_tuple_getitem (F.args_tuple_getitem_2 _ _)
      (tuple_getitem_slice ad vs n sl vl vu nlo nhi pl pu (by rw [h3.size]; exact h2)) ⟨h1, hsl, fun hw' => ?_, ?_⟩) (hsub _ _)
    · refine k.here (t := s.toks) wf ⟨ad, vs, n, rfl, hw, h1, by omega, ?_⟩
      rw [hw'] at hcr; exact hcr
    · exact k.tuple (t := s.toks) wf (by simpa using hcr) (by omega)
  · rename_i l
    obtain ⟨hq, b1⟩ := bdo_all hq
    obtain ⟨pl, _⟩ := b1 _ rl
    obtain ⟨pu, _⟩ := (bdo_all hq).2 _ ru
    obtain ⟨ad, vs, n, rfl, hw, h1, h2, h3⟩ := VR.lst r
    generalize bds lo = nlo at *
    generalize bds hi = nhi at *
    have hcr := h3.cut nlo nhi
    have hcl := cut_length_le l nlo nhi
    refine PyProof.Rows.tail_any (T := "list") ⟨_, h1, rfl⟩ F.slot_list_getitem.lookup (wpAny_getItem_list_slice ⟨_, h1, rfl, _, rfl⟩ hsl pl pu .none (by simp) (k.list (t := s.toks) wf ?_ (by rw [List.length_reverse]; omega)) (by rw [h3.size]; exact h2)) (hsub _ _)
    rw [slicePick_cut, List.reverse_reverse]; simpa using hcr
noncomputable def eSlc (a : T G d fi) (lo hi : Bd G d fi) (p' p : Pos) : T G d fi :=
  .mk' (.Subscript a.x (.Slice lo.x hi.x none p') p) (fun σ => bd (a.ev σ) fun x σ => bd (lo.ev σ) fun l σ => bd (hi.ev σ) fun h σ => rt (kSlc x.frz l h) σ) rfl
    (a.eo.bd (R := fun x ρ o ρ' => ∃ l h ρ₁ ps, BdG G d fi lo.x ρ l ρ₁ ∧ BdG G d fi hi.x ρ₁ h ρ' ∧ kSlc x.frz l h = some (o, ps) ∧ All ps) (fun x => lo.eo.bd (R := fun l ρ o ρ' => ∃ h ps, BdG G d fi hi.x ρ h ρ' ∧ kSlc x.frz l h = some (o, ps) ∧ All ps)
      (fun l => hi.eo.bd (R := fun h ρ o ρ' => ∃ ps, kSlc x.frz l h = some (o, ps) ∧ All ps ∧ ρ = ρ') (fun h => .rt fun o ps ρ e q => ⟨ps, e, q, rfl⟩) fun _ h _ _ _ z q => by obtain ⟨ps, q1, q2, rfl⟩ := q; exact ⟨h, ps, z, q1, q2⟩)
      fun _ l ρ₁ _ _ z q => by obtain ⟨h, ps, q1, q2, q3⟩ := q; exact ⟨l, h, ρ₁, ps, z, q1, q2, q3⟩) fun _ x _ _ _ z q => by
      obtain ⟨l, h, ρ₁, ps, hl, hh, q1, q2⟩ := q
      intro X E W φ s e S F Q kk
      refine PyProof.Rows.Subscript_ (z.v X E W φ s e S F _ fun x' W₁ φ₁ s₁ p₁ r₁ => wpAny_Slice (hl X E W₁ φ₁ s₁ e S p₁.f _ fun l' W₂ φ₂ s₂ p₂ r₂ => hh X E W₂ φ₂ s₂ e S p₂.f _ fun h' W₃ φ₃ s₃ p₃ r₃ => wpAny_pure ?_))
      have hk : ∀ a o, s₃.heap.get? a = some o → (s₃.heap.push { cls := .type "slice", data := .fields #[l', h', .none] }).get? a = some o := fun _ _ q => Heap.get?_push_of_some _ q
      have g := Gs.of (t := s₃.toks) p₃.f.f.wf hk
      have p4 := Pst.gs p₃.f g
      exact slc_ok (s := { s₃ with heap := _ }) p4.f.f.wf (((r₁.ag p₂.ag).ag p₃.ag).ag p4.ag) r₂ r₃ q1 q2 (Heap.IsSliceOf.new ..) (Aft.of (((p₁.trans p₂).trans p₃).trans p4) kk)) fun _ => rfl
end
end Mine
end

section
open PySem
set_option autoImplicit false
set_option linter.unusedVariables false
namespace Mine
open PySem.W (Looks keepIn)

theorem rev_pick (z : List Nat) : (Builtin.Str.strSliceIndices none none (-1) z.length).filterMap (z.toArray[·]?) = z.reverse := by
  have h : Builtin.Str.strSliceIndices none none (-1) z.length = (List.range z.length).map fun (k : Nat) => z.length - 1 - k := by
    show sliceRange ((z.length : Int) - 1) (-1) (-1) = _
    unfold sliceRange
    have hc : (if ((z.length : Int) - 1) > -1 then ((z.length : Int) - 1 - -1 - -1 - 1) / (- -1) else 0).toNat = z.length := by
      have e : ((z.length : Int) - 1 - -1 - -1 - 1) / (- -1) = z.length := by
        rw [show (- -1 : Int) = 1 by decide, Int.ediv_one]; omega
      rw [e]; split <;> omega
    simp only [show ¬ ((-1 : Int) > 0) by decide, if_false, hc]
    refine List.map_congr_left fun k hk => ?_
    rw [List.mem_range] at hk
    omega
  rw [h, List.filterMap_map]
  have key : ∀ n ≤ z.length, (List.range n).filterMap ((fun x => z.toArray[x]?) ∘ fun k => z.length - 1 - k) = (z.reverse).take n := by
    intro n
    induction n with
    | zero => intro _; simp
    | succ n ih =>
      intro hn
      rw [List.range_succ, List.filterMap_append, ih (by omega), List.take_add_one]
      congr 1
      have : n < z.length := by omega
      rw [List.getElem?_reverse this]
      simp only [List.filterMap_cons, List.filterMap_nil, Function.comp, List.getElem?_toArray]
      cases z[z.length - 1 - n]? <;> rfl
  rw [key z.length (Nat.le_refl _), ← List.length_reverse, List.take_length]

section
variable {G : Gl} {d : Nat} {fi : FI}
noncomputable def eRev (a : T G d fi) (k : Nat) (p1 p2 p' p : Pos) : T G d fi :=
  .mk' (.Subscript a.x (.Slice none none (some (.UnaryOp .USub (.Constant (.int 1) k p1) p2)) p') p) (fun σ => bd (a.ev σ) fun x σ => rt (x.frz.str?.bind fun z => some (.val (.str z.reverse), [])) σ) rfl
    (a.eo.bd (R := fun x ρ o ρ' => ∃ z, x.frz = .str z ∧ o = .val (.str z.reverse) ∧ ρ = ρ') (fun x => .rt fun o ps ρ e q => by
      obtain ⟨z, e1, e⟩ := Option.bind_eq_some_iff.mp e; cases e; exact ⟨z, V.str_of e1, rfl, rfl⟩) fun _ x _ _ _ h q => by
      obtain ⟨z, hx, rfl, rfl⟩ := q
      intro X E W φ s e S F Q kk
      refine PyProof.Rows.Subscript_ (h.v X E W φ s e S F _ fun x' W' φ' s' p' r' => wpAny_Slice ?_)
      refine wpAny_pure (wpAny_pure (wpAny_UnaryOp (wpAny_Constant_int (PySem.P.neg_int ?_))))
      rw [hx] at r'
      obtain ⟨t, rfl, ok, hz⟩ := r'
      have hk : ∀ a o, s'.heap.get? a = some o → (s'.heap.push { cls := .type "slice", data := .fields #[.none, .none, .int (-1) (s'.toks + 1)] }).get? a = some o := fun _ _ q => Heap.get?_push_of_some _ q
      have p4 := Pst.gs p'.f (Gs.of (t := s'.toks + 1 + 1) p'.f.f.wf hk)
      refine PyProof.Rows.tail_any (T := "str") (ops := [_, _]) (typeIs_str _ _ t) PySem.F.slot_str_getitem.lookup (wpAny_getItem_str_slice (l := none) (u := none) (st := some (-1, s'.toks + 1)) ⟨_, Heap.get?_push_size _ rfl, rfl, rfl⟩ rfl ?_) rfl
      unfold sliceMade
      rw [if_neg (by simp)]
      have hm : (slicePicked ⟨z.toArray⟩ none none (some (-1, s'.toks + 1))).filterMap ((⟨z.toArray⟩ : Str).cps[·]?) = z.reverse := by
        have e : slicePicked ⟨z.toArray⟩ none none (some (-1, s'.toks + 1)) = Builtin.Str.strSliceIndices none none (-1) z.length := by
          unfold slicePicked; simp [Str.length]
        rw [e]; exact rev_pick z
      rw [hm]
      have hok : PyData.strOk ⟨z.reverse.toArray⟩ = true := strOk_of ok fun c hc => by simpa using hc
      exact ⟨by simp [Str.length]; omega, (Aft.of (p'.trans p4) kk).here p4.f.f.wf ⟨_, rfl, hok, by simpa using hz⟩⟩) fun _ => rfl

noncomputable def textsOf (l : List V) : Option (List (List Nat)) := @List.rec V (fun _ => Option (List (List Nat))) (some []) (fun v _ r => v.str?.bind fun s => r.bind fun t => some (s :: t)) l
noncomputable def joinS (sep : List Nat) (l : List (List Nat)) : List Nat := @List.rec (List Nat) (fun _ => List Nat) [] (fun x r t => List.casesOn r x fun _ _ => x ++ sep ++ t) l
theorem strs_are {W : WS} {h : Heap} : ∀ {l : List V} {l' : List Value} {ss : List (List Nat)}, VRs W h l l' → textsOf l = some ss → PyProof.Rows.StrsAre l' (ss.map fun z => (⟨z.toArray⟩ : Str)) ∧ ∀ z ∈ ss, PyData.strOk ⟨z.toArray⟩ = true
  | [], _, _, r, e => by cases r; cases e; exact ⟨.nil, by simp⟩
  | v :: l, _, _, r, e => by
    obtain ⟨v', r', rfl, rv, rl⟩ := VRs.inv r
    obtain ⟨z, e1, e⟩ := Option.bind_eq_some_iff.mp e
    obtain ⟨t, e2, e⟩ := Option.bind_eq_some_iff.mp e
    cases e
    rw [V.str_of e1] at rv
    obtain ⟨tk, rfl, ok, _⟩ := rv
    obtain ⟨a, b⟩ := strs_are rl e2
    exact ⟨.cons _ _ a, fun y hy => (List.mem_cons.mp hy).elim (fun e => e ▸ ok) (b y)⟩
theorem join_eq (sep : List Nat) : ∀ ss : List (List Nat), Txt.join ⟨sep.toArray⟩ (ss.map fun z => (⟨z.toArray⟩ : Str)) = ⟨(joinS sep ss).toArray⟩
  | [] => rfl
  | [x] => rfl
  | x :: y :: r => by
    have ih := join_eq sep (y :: r)
    have : Txt.join ⟨sep.toArray⟩ ((x :: y :: r).map fun z => (⟨z.toArray⟩ : Str)) = (⟨x.toArray⟩ : Str) ++ ⟨sep.toArray⟩ ++ Txt.join ⟨sep.toArray⟩ ((y :: r).map fun z => (⟨z.toArray⟩ : Str)) := by
      simp only [Txt.join, StrLaws.glued_eq_join, List.map_cons, Str.join]
    rw [this, ih, str_append, str_append]
    rfl
theorem join_mem (sep : List Nat) : ∀ ss : List (List Nat), ∀ c ∈ joinS sep ss, c ∈ sep ∨ ∃ z ∈ ss, c ∈ z
  | [], c, h => nomatch h
  | [x], c, h => .inr ⟨x, List.mem_cons_self, h⟩
  | x :: y :: r, c, h => by
    rcases List.mem_append.mp (show c ∈ x ++ sep ++ joinS sep (y :: r) from h) with h | h
    · rcases List.mem_append.mp h with h | h
      · exact .inr ⟨x, List.mem_cons_self, h⟩
      · exact .inl h
    · rcases join_mem sep (y :: r) c h with h | ⟨z, hz, hc⟩
      · exact .inl h
      · exact .inr ⟨z, List.mem_cons_of_mem _ hz, hc⟩
theorem join_len (sep : List Nat) : ∀ ss : List (List Nat), (joinS sep ss).length ≤ (ss.map List.length).sum + ss.length * sep.length
  | [] => Nat.zero_le _
  | [x] => by show x.length ≤ _; simp
  | x :: y :: r => by
    have ih := join_len sep (y :: r)
    show (x ++ sep ++ joinS sep (y :: r)).length ≤ _
    simp only [List.length_append, List.map_cons, List.sum_cons, List.length_cons] at ih ⊢
    have : (r.length + 1 + 1) * sep.length = (r.length + 1) * sep.length + sep.length := by rw [Nat.add_mul (r.length + 1) 1, Nat.one_mul]
    omega
theorem meth_str {X : FC} {E : Value → Shared → Prop} {s : Shared} {vv : Value} {pl : Sem Bool} {Q : Value × List Value → Shared → Prop} (hT : s.TypeIs vv "str") (hd : ∀ a, vv = .ref a → ∃ o, s.heap.get? a = some o ∧ o.dict = none) (h : Q (.builtin "str.join", [vv]) s) :
    wpAny X.C.M X.A (getMethod vv "join" pl) Q E s := getMethod_builtin hT PySem.F.plainAttrs_str PySem.F.slot_str_join PySem.F.type_str_join hd h
noncomputable def kJoin (x y : V) : Option (O × List Prop) := x.str?.bind fun sep => y.lst?.bind fun l => (textsOf l).bind fun ss => some (.val (.str (joinS sep ss)), [(ss.map List.length).sum + ss.length * sep.length ≤ room])
noncomputable def eJoin (x : Str) (sep : List Nat) (k : Nat) (sp : Pos) (b : T G d fi) (ap p : Pos) (ex : x = ⟨sep.toArray⟩) (h : (PyData.strOk ⟨sep.toArray⟩ && Nat.ble sep.length 1000 && (ap.endLine == p.line)) = true) : T G d fi :=
  .mk' (.Call (.Attribute (.Constant (.str x) k sp) "join" ap) [b.x] [] p) (fun σ => bd (b.ev σ) fun y σ => rt (kJoin (.str sep) y.frz) σ) rfl
    (b.eo.bd (R := fun y ρ o ρ' => ∃ ps, kJoin (.str sep) y.frz = some (o, ps) ∧ All ps ∧ ρ = ρ') (fun x => .rt fun o ps ρ e q => ⟨ps, e, q, rfl⟩) fun _ y _ _ _ hy q => by
      obtain ⟨ps, q1, q2, rfl⟩ := q
      subst ex
      rw [Bool.and_eq_true, Bool.and_eq_true] at h
      intro X E W φ s e S F Q kk
      refine method_call rfl (fun z q => by cases List.mem_singleton.mp q; exact b.pl) h.2 rfl fun pl => wpAny_Constant_str ?_
      generalize hvv : Value.str { cps := sep.toArray } s.toks = vv
      refine meth_str (by rw [← hvv]; exact typeIs_str _ _ _) (fun a q => by rw [← hvv] at q; cases q) (callW (K := X.C.K) (fun h _ => keeper_builtin _ h _) (PySem.Calls.spliced_cons (hy.v X E W φ { s with toks := s.toks + 1 } e S (F.toks _) _ fun y' W' φ' s' p' r' => PySem.Calls.spliced_nil ⟨p'.f.In S, ?_⟩)))
      subst hvv
      obtain ⟨_, z1, q1⟩ := Option.bind_eq_some_iff.mp q1
      cases z1
      obtain ⟨l, e1, q1⟩ := Option.bind_eq_some_iff.mp q1
      obtain ⟨ss, e2, q1⟩ := Option.bind_eq_some_iff.mp q1
      cases q1
      rw [V.lst_of e1] at r'
      obtain ⟨a, vs, n, rfl, _, h1, h2, h3⟩ := VR.lst r'
      obtain ⟨a1, a2⟩ := strs_are h3 e2
      have hjl := join_len sep ss
      have hq := Nat.le_trans q2.1 room_le
      refine PyProof.Rows.join_list ⟨_, h1, rfl, _, rfl⟩ a1 ?_ fun t' kk' => ?_
      · have e2 : ((ss.map fun z => (⟨z.toArray⟩ : Str)).map (·.length)) = ss.map List.length := by simp [Str.length, Function.comp]
        rw [e2, List.length_map]
        have e3 : (⟨sep.toArray⟩ : Str).length = sep.length := by simp [Str.length]
        rw [e3]; exact hq
      · rw [join_eq]
        have p2 : Pst X W s W' φ' s' _ := ⟨p'.f, p'.ag, p'.vl⟩
        refine (Aft.of p2 kk).here p'.f.f.wf (show VR W' s'.heap (.str (joinS sep ss)) _ from ⟨_, rfl, ?_, by omega⟩)
        have ok := h.1.1
        simp [PyData.strOk]
        intro c hc
        rcases join_mem sep ss c hc with h | ⟨z, hz, hcz⟩
        · simp [PyData.strOk] at ok; exact ok c h
        · have := a2 z hz; simp [PyData.strOk] at this; exact this c hcz) fun _ => rfl

noncomputable def popV (i : Nat) (σ : St) : Option (O × St) := (slot σ.ρ i).bind fun o => O.casesOn o (fun _ => none) fun r => List.casesOn r none fun v r => some (.val v, ⟨σ.ρ.set i (some (.own r)), σ.tp, σ.ob⟩)
noncomputable def ePop (x : Str) (i : Nat) (xp ap p : Pos) (h : (fi.isVar x i && (ap.endLine == p.line)) = true) : T G d fi :=
  .mk' (.Call (.Attribute (.Name x xp) "pop" ap) [] [] p) (popV i) rfl (by
    intro σ a σ' e q
    obtain ⟨o, e1, e⟩ := Option.bind_eq_some_iff.mp e
    rw [Bool.and_eq_true] at h
    cases o with
    | val v => cases e
    | own r =>
      cases r with
      | nil => cases e
      | cons v r =>
        cases e
        refine ⟨q, fun X E W φ s ef S F Q kk => method_call rfl (fun z q => by cases q) h.2 rfl fun pl => load_ok S F (ef ▸ h.1) (slot_some e1) fun x' hx hn hv rr => ?_⟩
        obtain ⟨ad, hp, rfl, vs, n, h1, h2, h3⟩ := rr
        refine getMethod_builtin (T := "list") ⟨_, h1, rfl⟩ PySem.F.plainAttrs_list PySem.F.slot_list_pop PySem.F.type_list_pop (fun a q => by cases q; exact ⟨_, h1, rfl⟩) ?_
        refine callW (K := X.C.K) (fun h _ => keeper_builtin _ h _) (PySem.Calls.spliced_nil ⟨F.In S, ?_⟩)
        have hs := h2.size
        rw [List.length_reverse] at hs
        have hz : vs.size - 1 = r.length := by rw [hs]; rfl
        rw [List.reverse_cons] at h2
        obtain ⟨v', g1, g2⟩ := h2.get (i := r.length) (v := v) (by rw [← List.length_reverse]; exact List.getElem?_concat_length)
        refine call_meets PySem.F.slot_list_pop ⟨_, h1, rfl⟩ PySem.F.entry_list_pop (PySem.F.args_list_pop_1 _) (MeetsSeq.list_pop_last ad vs n v' (by rw [hz, ← Array.getElem?_toList]; exact g1) (by rw [hs]; exact h3)) ⟨h1, ?_⟩
        have hd : (vs.eraseIdxIfInBounds (vs.size - 1)).toList = vs.toList.take r.length := by
          have : r.length + 1 = vs.toList.length := by rw [Array.length_toList]; exact hs.symm
          rw [Array.toList_eraseIdxIfInBounds, hz, List.eraseIdx_eq_dropLast this, List.dropLast_eq_take, ← this]; rfl
        have ht := h2.take r.length
        rw [show ((r.reverse ++ [v]).take r.length) = r.reverse by rw [← List.length_reverse]; exact List.take_left] at ht
        have hsb : Heap.SameBut ad s.heap (s.heap.update ad (Obj.mapSeq fun xs => xs.eraseIdxIfInBounds (vs.size - 1))) := Heap.SameBut.update ..
        obtain ⟨A, B⟩ := F.turn (x := x) (i := i) (t := s.toks) (r := r) (fun y hy => S.ti y x i hy hx) hp hsb hv (Heap.get?_update_self _ h1 rfl) (by rw [hd]; exact ht) (Nat.le_of_succ_le h3)
        refine kk _ _ _ _ ⟨A, B, fun y w hw => ?_⟩ (.val (g2.ag B))
        have hno := F.f.notOwn h1
        obtain ⟨q, m, ⟨o, es, ep, e, z⟩, hm⟩ | ⟨q, c, hc, o, e, z⟩ := hw
        · exact .inl ⟨q, m, ⟨o, es, ep, (hsb.2 _ (Ne.symm hno.1)).trans e, z⟩, hm⟩
        · exact .inr ⟨q, c, hc, o, (hsb.2 c fun e => hno.2 y (e ▸ hc)).trans e, z⟩) fun _ => rfl
end
end Mine
end

section
open PySem
set_option autoImplicit false
set_option linter.unusedVariables false
namespace Mine
open PySem.W (Looks keepIn)

structure Fre (X : FC) (W : WS) (φ : Nat → List Addr) (a : Addr) : Prop where
  pin : X.pin a = none
  w : ¬ W a
  mu : ¬ Mut X φ a
  nc : ∀ x, X.env.cells.lookup x ≠ some a
noncomputable def FC.pinned (X : FC) (a : Addr) (o : Obj) : FC := { X with pin := fun b => if b = a then some o else X.pin b, W0 := fun b => b ≠ a ∧ X.W0 b }

section
variable {G : Gl} {d : Nat} {X : FC} {W : WS} {φ : Nat → List Addr} {s : Shared} {ρ : Loc} {h' : Heap} {a : Addr} {o : Obj}
theorem Fre.of (F : At X W φ s ρ) (e : s.heap.get? a = none) : Fre X W φ a := by
  have nc : ∀ x, X.env.cells.lookup x ≠ some a := fun x m => by obtain ⟨o, _, z, _⟩ := F.f.cells x a m; rw [e] at z; cases z
  refine ⟨?_, fun q => ?_, fun m => ?_, nc⟩
  · cases q : X.pin a with
    | none => rfl
    | some o => have := F.f.pin a o q; rw [e] at this; cases this
  · obtain ⟨o, z⟩ := F.f.wf a q; rw [e] at z; cases z
  · rcases m with m | ⟨_, x, m⟩ | ⟨i, m⟩
    · obtain ⟨o, _, _, z, _⟩ := F.f.ns; rw [← m, e] at z; cases z
    · exact nc x m
    · obtain ⟨_, _, z⟩ := F.ow i a m; rw [e] at z; cases z
theorem At.move (F : At X W φ s ρ) {D : Addr → Prop} (f : ∀ b, D b → Fre X W φ b) {W' : WS} {t : Nat} (hk : ∀ b o, ¬ D b → s.heap.get? b = some o → h'.get? b = some o) (hw : ∀ b, W b → W' b) (wf : ∀ b, W' b → ∃ o, h'.get? b = some o) (nw : ∀ b o, ¬ D b → s.heap.get? b = some o → W' b → W b) :
    At X W' φ { s with heap := h', toks := t } ρ ∧ Ag W s.heap W' h' ∧ ∀ x v, Val X.env s.heap x v → Val X.env h' x v := by
  have ne : ∀ b, W b → ¬ D b := fun b q e => (f b e).w q
  have nm : ∀ b, Mut X φ b → ¬ D b := fun b q e => (f b e).mu q
  have ag : Ag W s.heap W' h' := ⟨hw, fun b q => by obtain ⟨o, e⟩ := F.f.wf b q; exact (hk b o (ne b q) e).trans e.symm⟩
  have val : ∀ x v, Val X.env s.heap x v → Val X.env h' x v := fun x v r => by
    obtain ⟨q, m, ⟨o, es, ep, e, z⟩, hm⟩ | ⟨q, c, hc, o, e, z⟩ := r
    · exact .inl ⟨q, m, ⟨o, es, ep, hk _ _ (nm _ (.inl rfl)) e, z⟩, hm⟩
    · exact .inr ⟨q, c, hc, o, hk _ _ (fun e => (f c e).nc x hc) e, z⟩
  have ow : ∀ i b, b ∈ φ i → ¬ D b := fun i b q => nm b (.inr (.inr ⟨i, q⟩))
  have np : ∀ b o, X.pin b = some o → ¬ D b := fun b o e q => by rw [(f b q).pin] at e; cases e
  refine ⟨⟨F.gens, F.os, ⟨fun b o e => hk b o (np b o e) (F.f.pin b o e), fun b q => ⟨(F.f.mu b q).1, fun w => (F.f.mu b q).2 ?_⟩, wf, fun b o e w => F.f.w0 b o e (nw b o (np b o e) (F.f.pin b o e) w), F.f.dis, ?_, fun x c q => ?_⟩, fun x i hx o ho hn => ?_, fun i b q => ?_⟩, ag, val⟩
  · have : ∃ o, s.heap.get? b = some o := by
      rcases q with q | ⟨_, x, q⟩ | ⟨i, q⟩
      · obtain ⟨o, _, _, e, _⟩ := F.f.ns; exact ⟨o, q ▸ e⟩
      · obtain ⟨o, _, e, _⟩ := F.f.cells x b q; exact ⟨o, e⟩
      · obtain ⟨_, _, e⟩ := F.ow i b q; exact ⟨_, e⟩
    obtain ⟨o, e⟩ := this
    exact nw b o (nm b q) e w
  · obtain ⟨o, es, ep, e, z⟩ := F.f.ns; exact ⟨o, es, ep, hk _ _ (nm _ (.inl rfl)) e, z⟩
  · obtain ⟨o, v, e, z⟩ := F.f.cells x c q; exact ⟨o, v, hk c o (fun e => (f c e).nc x q) e, z⟩
  · obtain ⟨v', p, r⟩ := F.lr x i hx o ho hn
    exact ⟨v', val _ _ p, r.ag ag fun b q => by obtain ⟨_, _, e⟩ := F.ow i b q; exact (hk b _ (ow i b q) e).trans e.symm⟩
  · obtain ⟨vs, n, e⟩ := F.ow i b q; exact ⟨vs, n, hk b _ (ow i b q) e⟩
theorem At.loose (F : At X W φ s ρ) (f : Fre X W φ a) {t : Nat} (hk : ∀ b o, b ≠ a → s.heap.get? b = some o → h'.get? b = some o) :
    At X W φ { s with heap := h', toks := t } ρ ∧ Ag W s.heap W h' ∧ ∀ x v, Val X.env s.heap x v → Val X.env h' x v :=
  F.move (D := (· = a)) (fun b q => q ▸ f) hk (fun _ q => q) (fun b q => by obtain ⟨o, e⟩ := F.f.wf b q; exact ⟨o, hk b o (fun z => f.w (z ▸ q)) e⟩) fun _ _ _ _ q => q
theorem At.pinned (F : At X W φ s ρ) (f : Fre X W φ a) (e : s.heap.get? a = some o) : At (X.pinned a o) W φ s ρ where
  gens := F.gens
  os := F.os
  f := { F.f with
    pin := fun b o' q => by
      dsimp only [FC.pinned] at q
      split at q
      · rename_i z; cases q; rw [z]; exact e
      · exact F.f.pin b o' q
    mu := fun b q => by
      have q : Mut X φ b := q
      have z : b ≠ a := fun z => f.mu (z ▸ q)
      exact ⟨(if_neg z).trans (F.f.mu b q).1, (F.f.mu b q).2⟩
    w0 := fun b o' q w => by
      dsimp only [FC.pinned] at q ⊢
      split at q
      · rename_i z; exact absurd (z ▸ w) f.w
      · rename_i z; exact ⟨z, F.f.w0 b o' q w⟩ }
  lr := F.lr
  ow := F.ow
theorem FC.pinned_ne {b : Addr} (h : b ≠ a) : (X.pinned a o).pin b = X.pin b := if_neg h
theorem FC.pinned_same : (X.pinned a o).pin a = some o := if_pos rfl
theorem At.unpin (F : At (X.pinned a o) W φ s ρ) (hp : X.pin a = none) (nc : ∀ x, X.env.cells.lookup x ≠ some a) : At X W φ s ρ ∧ Fre X W φ a ∧ s.heap.get? a = some o := by
  have ne : ∀ b, Mut X φ b → b ≠ a := fun b q e => by have := (F.f.mu b q).1; rw [e, FC.pinned_same] at this; cases this
  refine ⟨⟨F.gens, F.os, { F.f with pin := fun b o' q => F.f.pin b o' ?_, mu := fun b q => ⟨?_, (F.f.mu b q).2⟩, w0 := fun b o' q w => (F.f.w0 b o' ?_ w).2 }, F.lr, F.ow⟩, ⟨hp, fun w => (F.f.w0 a o FC.pinned_same w).1 rfl, fun q => ne a q rfl, nc⟩, F.f.pin a o FC.pinned_same⟩
  · rw [FC.pinned_ne fun e => by rw [e, hp] at q; cases q]; exact q
  · rw [← FC.pinned_ne (ne b q)]; exact (F.f.mu b q).1
  · rw [FC.pinned_ne fun e => by rw [e, hp] at q; cases q]; exact q
theorem FS.pinned (S : FS G d X) (hp : X.pin a = none) : FS G d (X.pinned a o) :=
  ⟨S.g, fun b o' q => by rw [FC.pinned_ne fun e => by have := S.base b o' q; rw [e, hp] at this; cases this]; exact S.base b o' q, S.hd, S.dp, S.un, S.fn, S.gl, S.bi, S.nm, S.cel, S.inj, S.ti⟩
theorem RO.unpin {r : O} {v' : Value} {h : Heap} (x : RO (X.pinned a o) W φ h r v') : RO X W φ h r v' := by
  obtain ⟨p, x, y⟩ := x
  refine ⟨p, x, fun b q => ⟨(y b q).1, (y b q).2.1, ?_⟩⟩
  have z := (y b q).2.2
  rwa [FC.pinned_ne fun e => by rw [e, FC.pinned_same] at z; cases z] at z
end

noncomputable def rangeL (a : Int) (n : Nat) : List V := @Nat.rec (fun _ => Int → List V) (fun _ => []) (fun _ f a => .int a :: f (a + 1)) n a
inductive ItR (W : WS) (h : Heap) (it : Addr) : List V → Prop
  | list {a : Addr} {vs : Array Value} {n i : Nat} {l : List V} : h.IsListIter it a i → W a → h.get? a = some (lstO vs n) → VRs W h l (vs.toList.drop i) → ItR W h it l
  | rev {a : Addr} {vs : Array Value} {n i : Nat} {l : List V} : h.IsRevIter it a ((i : Int) - 1) → W a → h.get? a = some (lstO vs n) → i ≤ vs.size → VRs W h l (vs.toList.take i).reverse → ItR W h it l
  | range {a : Int} {n : Nat} : IsRangeIter h it a n 1 → ItR W h it (rangeL a n)
section
variable {X : FC} {W : WS} {φ : Nat → List Addr} {s : Shared} {ρ : Loc} {it : Addr} {E : Value → Shared → Prop}
theorem ItR.ag {h h' : Heap} {W' : WS} {l : List V} (I : ItR W h it l) (g : Ag W h W' h') (e : h'.get? it = h.get? it) : ItR W' h' it l := by
  cases I with
  | list hit w ha r => obtain ⟨o, a, b⟩ := hit; exact .list ⟨o, e.trans a, b⟩ (g.w _ w) ((g.k _ w).trans ha) (r.ag g)
  | rev hit w ha hi r => obtain ⟨o, a, b⟩ := hit; exact .rev ⟨o, e.trans a, b⟩ (g.w _ w) ((g.k _ w).trans ha) hi (r.ag g)
  | range hit => exact .range (e.trans hit)
theorem ItR.at {h : Heap} {l : List V} (I : ItR W h it l) : ∃ o, h.get? it = some o := by
  cases I with
  | list hit w ha r => obtain ⟨o, a, b⟩ := hit; exact ⟨o, a⟩
  | rev hit w ha hi r => obtain ⟨o, a, b⟩ := hit; exact ⟨o, a⟩
  | range hit => exact ⟨_, hit⟩
theorem ItR.self {l : List V} {C : Cx} {A : Around} {Q : Value → Shared → Prop} (I : ItR W s.heap it l) (h : Q (.ref it) s) : wpAny C.M A (pyIter (.ref it)) Q E s := by
  cases I with
  | list hit _ _ _ => exact wpAny_pyIter_listiter hit h
  | rev hit _ _ _ _ => exact wpAny_pyIter_revIter hit h
  | range hit => exact wpAny_pyIter_rangeiter hit h
theorem ItR.next {l : List V} {Q : Option Value → Shared → Prop} (hh : X.A.handled = none) (F : At X W φ s ρ) (f : Fre X W φ it) (I : ItR W s.heap it l)
    (k : ∀ s', At X W φ s' ρ → Ag W s.heap W s'.heap → (∀ b o, b ≠ it → s.heap.get? b = some o → s'.heap.get? b = some o) → @List.casesOn V (fun _ => Prop) l (Q none s') (fun v r => ∀ v', VR W s'.heap v v' → ItR W s'.heap it r → Q (some v') s')) :
    wpAny X.C.M X.A (pyNext (.ref it)) Q E s := by
  have go : ∀ {h' : Heap} {t : Nat}, (∀ b o, b ≠ it → s.heap.get? b = some o → h'.get? b = some o) → Ag W s.heap W h' ∧ @List.casesOn V (fun _ => Prop) l (Q none { s with heap := h', toks := t }) (fun v r => ∀ v', VR W h' v v' → ItR W h' it r → Q (some v') { s with heap := h', toks := t }) := fun hk => by
    obtain ⟨A, B, _⟩ := F.loose f hk; exact ⟨B, k _ A B hk⟩
  have go' : ∀ {h' : Heap} {t : Nat}, Heap.SameBut it s.heap h' → _ := fun {h' t} hs => go (h' := h') (t := t) fun b o q e => (hs.2 b q).trans e
  cases I with
  | @list a vs n i l hit w ha r =>
    cases l with
    | nil =>
      refine wpAny_pyNext_list_end hh hit ⟨_, ha, rfl, _, rfl⟩ ?_ fun h' he' => (go (t := s.toks) fun b o q e => he' b o q e).2
      have := congrArg List.length (show vs.toList.drop i = [] from r)
      rw [List.length_drop, Array.length_toList] at this
      exact Array.getElem?_eq_none (by simp at this; omega)
    | cons v l =>
      obtain ⟨v', r', e, rv, rl⟩ := VRs.inv r
      have hv : vs[i]? = some v' := by rw [← Array.getElem?_toList, ← Nat.add_zero i, ← List.getElem?_drop, e]; rfl
      have hr : r' = vs.toList.drop (i + 1) := by rw [← List.drop_drop, e]; rfl
      refine wpAny_pyNext_list_item hit ⟨_, ha, rfl, _, rfl⟩ hv fun h' hit' hs' => ?_
      obtain ⟨g, k⟩ := go' (t := s.toks) hs'
      exact k v' (rv.ag g) (.list hit' w ((g.k _ w).trans ha) (hr ▸ rl.ag g))
  | @rev a vs n i l hit w ha hi r =>
    cases i with
    | zero =>
      have hl : l = [] := by cases l with
        | nil => rfl
        | cons v l => obtain ⟨_, _, e, _⟩ := VRs.inv r; cases e
      subst hl
      exact wpAny_pyNext_rev_end hh (by simpa using hit) fun h' he' => (go (t := s.toks) fun b o q e => he' b o q e).2
    | succ i =>
      have hlt : i < vs.toList.length := by rw [Array.length_toList]; exact hi
      rw [List.take_succ_eq_append_getElem hlt, List.reverse_append] at r
      cases l with
      | nil => cases (show _ = [] from r)
      | cons v l =>
        obtain ⟨v', r', e, rv, rl⟩ := VRs.inv r
        cases e
        have hit1 : s.heap.IsRevIter it a (i : Int) := by have : ((i + 1 : Nat) : Int) - 1 = i := by omega
                                                          rw [this] at hit; exact hit
        refine wpAny_pyNext_rev_item hit1 ⟨_, ha, rfl, _, rfl⟩ (x := vs.toList[i]) (by simp [hlt]) fun h' hit' hs' => ?_
        obtain ⟨g, k⟩ := go' (t := s.toks) hs'
        exact k _ (rv.ag g) (.rev hit' w ((g.k _ w).trans ha) (Nat.le_of_succ_le hi) (rl.ag g))
  | @range a n hit =>
    cases n with
    | zero => exact wpAny_pyNext_range_end hh hit (by simp) fun h' he' => (go (t := s.toks) fun b o q e => he' b o q e).2
    | succ n =>
      refine wpAny_pyNext_range_item hit (by omega) fun h' hit' hs' => ?_
      obtain ⟨g, k⟩ := go' (t := s.toks + 1) hs'
      refine k _ ⟨_, rfl⟩ (.range ?_)
      have : ((n + 1 : Nat) : Int) - 1 = n := by omega
      rw [this] at hit'; exact hit'
end

def ItG (G : Gl) (d : Nat) (fi : FI) (x : Expr) (ρ : Loc) (l : List V) (ρ' : Loc) : Prop := ∀ (X : FC) (E : Value → Shared → Prop) (W : WS) (φ : Nat → List Addr) (s : Shared), X.fi = fi → FS G d X → At X W φ s ρ →
  ∀ Q : Value → Shared → Prop, (∀ it W' φ' s', Pst X W s W' φ' s' ρ' → Fre X W' φ' it → ItR W' s'.heap it l → Q (.ref it) s') → wpAny X.C.M X.A (eval x X.env) (fun v s₁ => wpAny X.C.M X.A (pyIter v) Q E s₁) E s
structure It (G : Gl) (d : Nat) (fi : FI) where
  x : Expr
  ev : St → Option (List V × St)
  pl : plainX x = true
  eo : Ok ev (ItG G d fi x)
section
variable {G : Gl} {d : Nat} {fi : FI}
theorem Pst.push {X : FC} {W W' : WS} {φ' : Nat → List Addr} {s s' : Shared} {ρ' : Loc} (p : Pst X W s W' φ' s' ρ') (o : Obj) (t : Nat) : Pst X W s W' φ' { s' with heap := s'.heap.push o, toks := t } ρ' ∧ Fre X W' φ' s'.heap.objs.size :=
  ⟨p.trans (.gs p.f (Gs.of p.f.f.wf fun _ _ q => Heap.get?_push_of_some _ q)), .of p.f (fresh_size _)⟩
noncomputable def iList (a : T G d fi) : It G d fi := ⟨a.x, fun σ => bd (a.ev σ) fun x σ => x.frz.lst?.bind fun l => pu l σ, a.pl,
  a.eo.bd (R := fun x ρ l ρ' => x.frz = .lst l ∧ ρ = ρ') (fun x σ l σ' e q => by obtain ⟨i, e1, e⟩ := Option.bind_eq_some_iff.mp e; cases e; exact ⟨q, V.lst_of e1, rfl⟩) fun _ x _ l _ h q X E W φ s e S F Q k => by
    obtain ⟨hx, rfl⟩ := q
    refine h.v X E W φ s e S F _ fun v' W' φ' s' p' r' => ?_
    rw [hx] at r'
    obtain ⟨b, vs, n, rfl, hw, h1, h2, h3⟩ := VR.lst r'
    refine wpAny_pyIter_list ⟨_, h1, rfl, _, rfl⟩ ?_
    obtain ⟨p2, f⟩ := p'.push { cls := .type "list_iterator", data := .fields #[.ref b, .int 0 0] } s'.toks
    have g : Ag W' s'.heap W' (s'.heap.push { cls := .type "list_iterator", data := .fields #[.ref b, .int 0 0] }) := (Gs.of (t := s'.toks) p'.f.f.wf fun _ _ q => Heap.get?_push_of_some _ q).g.ag p'.f.f.wf
    exact k _ _ _ _ p2 f (.list (i := 0) ⟨_, Heap.get?_push_size _ rfl, rfl, rfl⟩ hw ((g.k _ hw).trans h1) (h3.ag g))⟩
noncomputable def iRev (a : T G d fi) (p' p : Pos) (hb : isBi G fi "reversed" = true) : It G d fi := ⟨.Call (.Name "reversed" p') [a.x] [] p, fun σ => bd (a.ev σ) fun x σ => O.casesOn x (fun v => v.lst?.bind fun l => pu l.reverse σ) (fun r => pu r σ), rfl,
  a.eo.bd (R := fun x ρ l ρ' => x.frz = .lst l.reverse ∧ ρ = ρ') (fun x σ l σ' e q => by
    cases x with
    | val v => obtain ⟨i, e1, e⟩ := Option.bind_eq_some_iff.mp e; cases e; exact ⟨q, by rw [List.reverse_reverse]; exact V.lst_of e1, rfl⟩
    | own r => cases e; exact ⟨q, rfl, rfl⟩) fun _ x _ l _ h q X E W φ s e S F Q k => by
    obtain ⟨hx, rfl⟩ := q
    refine PyProof.Rows.Call_ (bi_ok S F (e ▸ hb) boot_reversed ?_)
    rw [starEach_plain (xs := [a.x]) (fun y q => by cases List.mem_singleton.mp q; exact a.pl), backTo_plain]
    refine callW (K := X.C.K) (fun h _ => keeper_type _ h _) (PySem.Calls.spliced_cons (h.v X E W φ s e S F _ fun v' W' φ' s' p' r' => PySem.Calls.spliced_nil ⟨p'.f.In S, ?_⟩))
    rw [hx] at r'
    obtain ⟨b, vs, n, rfl, hw, h1, h2, h3⟩ := VR.lst r'
    have hit : (s'.heap.push (revObj b ((vs.size : Int) - 1))).IsRevIter s'.heap.objs.size b ((vs.size : Int) - 1) := ⟨_, Heap.get?_push_size _ rfl, rfl, rfl⟩
    refine call_reversed_list ⟨_, h1, rfl, _, rfl⟩ (wpAny_pyIter_revIter hit ?_)
    obtain ⟨p2, f⟩ := p'.push (revObj b ((vs.size : Int) - 1)) s'.toks
    have g : Ag W' s'.heap W' (s'.heap.push (revObj b ((vs.size : Int) - 1))) := (Gs.of (t := s'.toks) p'.f.f.wf fun _ _ q => Heap.get?_push_of_some _ q).g.ag p'.f.f.wf
    refine k _ _ _ _ p2 f (.rev (i := vs.size) hit hw ((g.k _ hw).trans h1) (Nat.le_refl _) ?_)
    rw [← Array.length_toList, List.take_length]
    have : ∀ {l : List V} {l' : List Value}, VRs W' (s'.heap.push (revObj b ((vs.size : Int) - 1))) l l' → VRs W' (s'.heap.push (revObj b ((vs.size : Int) - 1))) l.reverse l'.reverse := by
      intro l
      induction l with
      | nil => intro l' r; cases r; exact rfl
      | cons v l ih => intro l' r; obtain ⟨v', r', rfl, x, y⟩ := VRs.inv r; rw [List.reverse_cons, List.reverse_cons]; exact (ih y).snoc x
    have z := this (h3.ag g)
    rwa [List.reverse_reverse] at z⟩
theorem range_small {a b : Int} (ha : a.natAbs ≤ 1000000) (hb : b.natAbs ≤ 1000000) : Builtin.Range.small a b 1 = true := by
  simp only [Builtin.Range.small, Builtin.Range.rangeFitsLong, Builtin.Range.rangeSize, Bool.and_eq_true, Bool.or_eq_true, decide_eq_true_eq]
  refine ⟨⟨⟨⟨⟨?_, ?_⟩, ?_, ?_⟩, ?_, ?_⟩, ?_, ?_⟩, .inr ?_⟩ <;> (try simp) <;> (try split) <;> (try simp) <;> omega
noncomputable def rangeV (vs : List V) : Option ((Int × Int) × List Prop) := List.casesOn vs none fun v r => v.int?.bind fun a => List.casesOn r (some ((0, a), [a.natAbs ≤ 1000000])) fun u r => u.int?.bind fun b => List.casesOn r (some ((a, b), [a.natAbs ≤ 1000000 ∧ b.natAbs ≤ 1000000])) fun _ _ => none
theorem range_ok {C : Cx} {A : Around} {E : Value → Shared → Prop} {W : WS} {s : Shared} {args : List V} {vals : List Value} {x : Int × Int} {ps : List Prop} {Q : Value → Shared → Prop} (r : VRs W s.heap args vals) (e : rangeV args = some (x, ps)) (q : All ps)
    (k : ∀ t u v tk, Builtin.Range.small x.1 x.2 1 = true → Builtin.Range.rangeSize x.1 x.2 1 = (x.2 - x.1).toNat → (x.2 - x.1).toNat ≤ 2 ^ 24 →
      Q (.ref s.heap.objs.size) { s with heap := s.heap.push { cls := .type "range", data := .fields #[.int x.1 t, .int x.2 u, .int 1 v] }, toks := tk }) : wpAny C.M A (call (.type "range") vals) Q E s := by
  have hsz : ∀ a b : Int, Builtin.Range.rangeSize a b 1 = (b - a).toNat := fun a b => by simp only [Builtin.Range.rangeSize]; simp; split <;> omega
  cases args with
  | nil => cases e
  | cons v args =>
    obtain ⟨v', r', rfl, rv, rr⟩ := VRs.inv r
    obtain ⟨a, e1, e⟩ := Option.bind_eq_some_iff.mp e
    rw [V.int_of e1] at rv
    obtain ⟨t, rfl⟩ := rv
    cases args with
    | nil =>
      cases e; obtain rfl : r' = [] := rr
      have q1 : a.natAbs ≤ 1000000 := q.1
      exact call_range_1 (k _ _ _ _ (range_small (show (0 : Int).natAbs ≤ 1000000 by decide) q1) (hsz _ _) (by dsimp only; omega))
    | cons u args =>
      obtain ⟨u', r2, rfl, ru, rr2⟩ := VRs.inv rr
      obtain ⟨b, e2, e⟩ := Option.bind_eq_some_iff.mp e
      rw [V.int_of e2] at ru
      obtain ⟨t2, rfl⟩ := ru
      cases args with
      | nil =>
        cases e; obtain rfl : r2 = [] := rr2
        have q1 : a.natAbs ≤ 1000000 ∧ b.natAbs ≤ 1000000 := q.1
        exact call_range_2 (k _ _ _ _ (range_small q1.1 q1.2) (hsz _ _) (by dsimp only; omega))
      | cons _ _ => cases e
noncomputable def iRange (r : Rw G d fi) (p' p : Pos) (hb : isBi G fi "range" = true) : It G d fi := ⟨.Call (.Name "range" p') r.xs [] p, fun σ => bd (r.ev σ) fun vs σ => rt ((rangeV vs).bind fun x => some (rangeL x.1.1 (x.1.2 - x.1.1).toNat, x.2)) σ, rfl,
  r.eo.bd (R := fun vs ρ l ρ' => ∃ x ps, rangeV vs = some (x, ps) ∧ All ps ∧ l = rangeL x.1 (x.2 - x.1).toNat ∧ ρ = ρ') (fun vs => .rt fun l ps ρ e q => by
    obtain ⟨x, e1, e⟩ := Option.bind_eq_some_iff.mp e; cases e; exact ⟨x.1, x.2, e1, q, rfl, rfl⟩) fun _ vs _ l _ hs q X E W φ s e S F Q k => by
    obtain ⟨x, ps, q1, q2, rfl, rfl⟩ := q
    refine PyProof.Rows.Call_ (bi_ok S F (e ▸ hb) boot_range ?_)
    rw [r.back]
    refine callW (K := X.C.K) (fun h _ => keeper_type _ h _) (hs.2 X E W φ s e S F _ fun vs' W' φ' s' p' r' => ⟨p'.f.In S, range_ok r' q1 q2 fun t u v tk hsm hn _ => wpAny_pyIter_range (Heap.get?_push_size _ rfl) hsm ?_⟩)
    rw [hn]
    obtain ⟨p2, _⟩ := p'.push { cls := .type "range", data := .fields #[.int x.1 t, .int x.2 u, .int 1 v] } tk
    obtain ⟨p3, f⟩ := p2.push _ tk
    exact k _ _ _ _ p3 f (.range (Heap.get?_push_size _ rfl))⟩
theorem rangeL_length : ∀ (n : Nat) (a : Int), (rangeL a n).length = n
  | 0, _ => rfl
  | n + 1, a => congrArg (· + 1) (rangeL_length n (a + 1))
theorem rangeL_items {W : WS} {h : Heap} : ∀ (n : Nat) (a : Int) (l : List Value), l.length = n → (∀ (i : Nat) (v : Value), l[i]? = some v → ∃ t, v = .int (a + (i : Int) * 1) t) → VRs W h (rangeL a n) l
  | 0, a, l, hl, _ => by cases l with | nil => exact rfl | cons _ _ => cases hl
  | n + 1, a, [], hl, _ => by cases hl
  | n + 1, a, v :: l, hl, h => by
    obtain ⟨t, rfl⟩ := h 0 v rfl
    refine VRs.cons ⟨t, by simp⟩ (rangeL_items n (a + 1) l (Nat.succ.inj hl) fun i u hu => ?_)
    obtain ⟨t', q⟩ := h (i + 1) u hu
    exact ⟨t', by rw [q]; congr 1; omega⟩
noncomputable def eListR (r : Rw G d fi) (p' p'' p2 p : Pos) (hb : (isBi G fi "list" && isBi G fi "range") = true) : T G d fi :=
  .mk' (.Call (.Name "list" p') [.Call (.Name "range" p'') r.xs [] p2] [] p) (fun σ => bd (r.ev σ) fun vs σ => rt ((rangeV vs).bind fun x => some (.own (rangeL x.1.1 (x.1.2 - x.1.1).toNat).reverse, x.2)) σ) rfl
    (r.eo.bd (R := fun vs ρ o ρ' => ∃ x ps, rangeV vs = some (x, ps) ∧ All ps ∧ o = .own (rangeL x.1 (x.2 - x.1).toNat).reverse ∧ ρ = ρ') (fun vs => .rt fun l ps ρ e q => by
      obtain ⟨x, e1, e⟩ := Option.bind_eq_some_iff.mp e; cases e; exact ⟨x.1, x.2, e1, q, rfl, rfl⟩) fun _ vs _ o _ hs q X E W φ s e S F Q k => by
      obtain ⟨x, ps, q1, q2, rfl, rfl⟩ := q
      rw [Bool.and_eq_true] at hb
      refine PyProof.Rows.Call_ (bi_ok S F (e ▸ hb.1) boot_list ?_)
      show wpAny _ X.A (callWith p (.type "list") [] (plainArgs [.Call (.Name "range" p'') r.xs [] p2] X.env) []) Q E s
      refine callW (K := X.C.K) (fun h _ => keeper_type _ h _) (PySem.Calls.spliced_cons (PyProof.Rows.Call_ (bi_ok S F (e ▸ hb.2) boot_range ?_)))
      rw [r.back]
      refine callW (K := X.C.K) (fun h _ => keeper_type _ h _) (hs.2 X E W φ s e S F _ fun vs' W' φ' s' p' r' => ⟨p'.f.In S, range_ok r' q1 q2 fun t u v tk hsm hn hlen => PySem.Calls.spliced_nil ?_⟩)
      obtain ⟨p2, _⟩ := p'.push { cls := .type "range", data := .fields #[.int x.1 t, .int x.2 u, .int 1 v] } tk
      refine ⟨p2.f.In S, call_list_range S.hd (Heap.get?_push_size _ rfl) hsm hn hlen fun h' tk' acc c' hk hget hit => ?_⟩
      refine (Aft.of p2 k).listAt (t := tk') p2.f.f.wf hk (fresh_size _) hget ?_ ?_
      · rw [List.reverse_reverse]; exact rangeL_items _ _ acc.toList (by rw [Array.length_toList]; exact hit.1) fun i v hv => hit.2 i v (by simpa using hv)
      · rw [List.length_reverse, rangeL_length]; exact Nat.le_trans hlen (by decide)) fun _ => rfl
end
end Mine
end

section
open PySem
set_option autoImplicit false
set_option linter.unusedVariables false
namespace Mine
open PySem.W (Looks keepIn)

def FlR (X : FC) (W : WS) (φ : Nat → List Addr) (h : Heap) (fl : Fl) (f : Flow) : Prop := Fl.casesOn fl (f = .next) fun o => ∃ v', f = .ret v' ∧ RO X W φ h o v'
def AfS (X : FC) (W : WS) (s : Shared) (fl : Fl) (ρ' : Loc) (Q : Flow → Shared → Prop) : Prop := ∀ f W' φ' s', At X W' φ' s' ρ' → Ag W s.heap W' s'.heap → FlR X W' φ' s'.heap fl f → Q f s'
section
variable (G : Gl) (d : Nat) (fi : FI)
def ExG (x : Stmt) (ρ : Loc) (fl : Fl) (ρ' : Loc) : Prop := ∀ (X : FC) (E : Value → Shared → Prop) (W : WS) (φ : Nat → List Addr) (s : Shared), X.fi = fi → X.cm = true → FS G d X → At X W φ s ρ →
  ∀ Q : Flow → Shared → Prop, AfS X W s fl ρ' Q → wpAny X.C.M X.A (exec x X.env) Q E s
def ExsG (xs : List Stmt) (ρ : Loc) (fl : Fl) (ρ' : Loc) : Prop := ∀ (X : FC) (E : Value → Shared → Prop) (W : WS) (φ : Nat → List Addr) (s : Shared), X.fi = fi → X.cm = true → FS G d X → At X W φ s ρ →
  ∀ Q : Flow → Shared → Prop, AfS X W s fl ρ' Q → wpAny X.C.M X.A (execs xs X.env) Q E s
def WhilOK (c : Expr) (b : List Stmt) (ρ : Loc) (fl : Fl) (ρ' : Loc) : Prop := ∀ (X : FC) (W : WS) (φ : Nat → List Addr) (s : Shared), X.fi = fi → X.cm = true → FS G d X → At X W φ s ρ →
  ∀ R : Result → Shared → Prop, AfS X W s fl ρ' (fun f s' => R (.ok f) s') → codeAny X.C.M X.A (.whileLoop c b [] X.env) R s
def ForOK (t : Expr) (b : List Stmt) (l : List V) (ρ : Loc) (fl : Fl) (ρ' : Loc) : Prop := ∀ (X : FC) (W : WS) (φ : Nat → List Addr) (s : Shared) (it : Addr), X.fi = fi → X.cm = true → FS G d X → At X W φ s ρ → Fre X W φ it → ItR W s.heap it l →
  ∀ R : Result → Shared → Prop, AfS X W s fl ρ' (fun f s' => R (.ok f) s') → codeAny X.C.M X.A (.forLoop t (.ref it) b [] X.env) R s
end
structure SS (G : Gl) (d : Nat) (fi : FI) where
  x : Stmt
  ex : St → Option (Fl × St)
  eo : Ok ex (ExG G d fi x)
structure SL (G : Gl) (d : Nat) (fi : FI) where
  xs : List Stmt
  ex : St → Option (Fl × St)
  eo : Ok ex (ExsG G d fi xs)

theorem noSwap {x : Expr} (h : isComp x = false) (t : Option Expr) (n : Nat) (env : Env) : swapsWith x t n env = pure false := by
  cases x <;> first | rfl | cases h
theorem noSet {x : Expr} (h : plainX x = true) (env : Env) (v : Value) : foldedSetIterable x env v = pure v := by
  cases x <;> first | rfl | cases h

section
variable {G : Gl} {d : Nat} {fi : FI}
noncomputable def lNil : SL G d fi := ⟨[], pu .next, .pu fun ρ X E W φ s e c S F Q k => wpAny_execs_nil (k _ _ _ _ F (.refl ..) rfl)⟩
noncomputable def lCons (a : SS G d fi) (b : SL G d fi) : SL G d fi := ⟨a.x :: b.xs, fun σ => bd (a.ex σ) fun fl σ => Fl.casesOn fl (b.ex σ) fun o => pu (.ret o) σ,
  a.eo.bd (R := fun f ρ fl ρ' => Fl.casesOn (motive := fun _ => Prop) f (ExsG G d fi b.xs ρ fl ρ') fun o => fl = .ret o ∧ ρ = ρ') (fun f => by
    cases f with
    | next => exact b.eo
    | ret o => exact .pu fun _ => ⟨rfl, rfl⟩) fun ρ f ρ₁ fl ρ' h q X E W φ s e c S F Q k => wpAny_execs_cons (h X E W φ s e c S F _ fun f' W' φ' s' A B C => by
    cases f with
    | next => cases C; exact q X E W' φ' s' e c S A Q fun g W2 φ2 s2 A2 B2 C2 => k _ _ _ _ A2 (B.trans B2) C2
    | ret o =>
      obtain ⟨rfl, rfl⟩ := q
      obtain ⟨v', rfl, r⟩ := C
      exact k _ _ _ _ A B ⟨v', rfl, r⟩)⟩

noncomputable def sExpr (a : T G d fi) (p : Pos) (hc : isComp a.x = false) : SS G d fi := ⟨.Expr a.x p, fun σ => bd (a.ev σ) fun _ σ => pu .next σ,
  a.eo.bd (R := fun _ ρ fl ρ' => fl = .next ∧ ρ = ρ') (fun _ => .pu fun _ => ⟨rfl, rfl⟩) fun _ _ _ _ _ h q X E W φ s e c S F Q k => by
    obtain ⟨rfl, rfl⟩ := q
    exact wpAny_Expr_any (h X E W φ s e S F _ fun v' W' φ' s' p' r' => k _ _ _ _ p'.f p'.ag rfl) (by unfold interactive; rw [S.fn]; rfl) (noSwap hc _ _ _)⟩
noncomputable def setL (i : Nat) (o : O) (σ : St) : Option (Fl × St) := some (.next, ⟨σ.ρ.set i (some o), σ.tp, σ.ob⟩)
theorem Ok.setL {i : Nat} {o : O} {S : Loc → Fl → Loc → Prop} (k : ∀ ρ, S ρ .next (ρ.set i (some o))) : Ok (setL i o) S := fun σ a σ' e h => by cases e; exact ⟨h, k _⟩
noncomputable def sAsg (x : Str) (i : Nat) (a : T G d fi) (p' p : Pos) (h : (fi.isOwn x i && !isComp a.x) = true) : SS G d fi := ⟨.Assign [.Name x p'] a.x p, fun σ => bd (a.ev σ) fun o σ => setL i o σ,
  a.eo.bd (R := fun o ρ fl ρ' => fl = .next ∧ ρ' = ρ.set i (some o)) (fun _ => .setL fun _ => ⟨rfl, rfl⟩) fun _ _ _ _ _ ha q X E W φ s e c S F Q k => by
    obtain ⟨rfl, rfl⟩ := q
    rw [Bool.and_eq_true, Bool.not_eq_true'] at h
    exact wpAny_Assign_Name (ha X E W φ s e S F _ fun v' W' φ' s' p' r' => store_ok S (.inr c) p'.f r' (e ▸ h.1) fun φ2 s2 A B => k _ _ _ _ A (p'.ag.trans B) rfl) (noSwap h.2 _ _ _)⟩
noncomputable def setN (is : List (Str × Nat × Pos)) (vs : List V) (ρ : Loc) : Option Loc := @List.rec (Str × Nat × Pos) (fun _ => List V → Loc → Option Loc) (fun vs ρ => List.casesOn vs (some ρ) fun _ _ => none) (fun i _ f vs ρ => List.casesOn vs none fun v vs => f vs (ρ.set i.2.1 (some (.val v)))) is vs ρ
abbrev nmX (is : List (Str × Nat × Pos)) : List Expr := is.map fun i => .Name i.1 i.2.2
theorem setN_ok {X : FC} {E : Value → Shared → Prop} (S : FS G d X) (c : X.cm = true) : ∀ {is : List (Str × Nat × Pos)} {vs : List V} {vs' : List Value} {ρ ρ' : Loc} {W : WS} {φ : Nat → List Addr} {s : Shared} {Q : Unit → Shared → Prop}, (is.all fun i => X.fi.isOwn i.1 i.2.1) = true → At X W φ s ρ → VRs W s.heap vs vs' → setN is vs ρ = some ρ' →
    (∀ φ' s', At X W φ' s' ρ' → Ag W s.heap W s'.heap → Q () s') → wpAny X.C.M X.A (assignInOrder ((assignEach (nmX is) X.env).map (·.2)) vs') Q E s
  | [], [], _, ρ, ρ', W, φ, s, Q, h, F, r, e, k => by cases r; cases e; exact wpAny_pure (k _ _ F (.refl ..))
  | [], _ :: _, _, ρ, ρ', W, φ, s, Q, h, F, r, e, k => by cases e
  | _ :: _, [], _, ρ, ρ', W, φ, s, Q, h, F, r, e, k => by cases e
  | i :: is, v :: vs, _, ρ, ρ', W, φ, s, Q, h, F, r, e, k => by
    obtain ⟨v', r', rfl, rv, rr⟩ := VRs.inv r
    rw [List.all_cons, Bool.and_eq_true] at h
    show wpAny _ X.A (do holding r' (assign (.Name i.1 i.2.2) X.env v'); assignInOrder ((assignEach (nmX is) X.env).map (·.2)) r') Q E s
    exact wpAny_bind (wpAny_holding (wpAny_assign_Name (store_ok S (.inr c) F (.val rv) h.1 fun φ' s' A B => setN_ok S c h.2 A (rr.ag B) e fun φ2 s2 A2 B2 => k _ _ A2 (B.trans B2))))
theorem setN_len : ∀ {is : List (Str × Nat × Pos)} {vs : List V} {ρ ρ' : Loc}, setN is vs ρ = some ρ' → is.length = vs.length
  | [], [], _, _, _ => rfl
  | [], _ :: _, _, _, e => nomatch e
  | _ :: _, [], _, _, e => nomatch e
  | _ :: _, _ :: vs, _, _, e => congrArg (· + 1) (setN_len (vs := vs) e)
theorem nmX_each (env : Env) : ∀ is : List (Str × Nat × Pos), (assignEach (nmX is) env).length = is.length ∧ (assignEach (nmX is) env).findIdx? (·.1) = none
  | [] => ⟨rfl, rfl⟩
  | i :: is => by
    have e : assignEach (nmX (i :: is)) env = (false, assign (.Name i.1 i.2.2) env) :: assignEach (nmX is) env := rfl
    rw [e, List.findIdx?_cons, (nmX_each env is).2]
    exact ⟨congrArg (· + 1) (nmX_each env is).1, rfl⟩
noncomputable def sUnp (is : List (Str × Nat × Pos)) (a : T G d fi) (k0 : Nat) (p' p : Pos) (h : ((is.all fun i => fi.isOwn i.1 i.2.1) && !isComp a.x) = true) (hw : ∀ env, swappedStores [.Tuple (nmX is) k0 p'] a.x env = pure none) : SS G d fi :=
  ⟨.Assign [.Tuple (nmX is) k0 p'] a.x p, fun σ => bd (a.ev σ) fun o σ => o.frz.tup?.bind fun vs => (setN is vs σ.ρ).bind fun ρ => some (.next, ⟨ρ, σ.tp, σ.ob⟩),
  a.eo.bd (R := fun o ρ fl ρ' => ∃ vs, o.frz = .tup vs ∧ setN is vs ρ = some ρ' ∧ fl = .next) (fun o σ f σ' e q => by
    obtain ⟨vs, e1, e⟩ := Option.bind_eq_some_iff.mp e
    obtain ⟨ρ, e2, e⟩ := Option.bind_eq_some_iff.mp e
    cases e; exact ⟨q, vs, V.tup_of e1, e2, rfl⟩) fun _ o _ _ _ ha q X E W φ s e c S F Q k => by
    obtain ⟨vs, hx, hs, rfl⟩ := q
    rw [Bool.and_eq_true, Bool.not_eq_true'] at h
    refine wpAny_Assign_stores (ha.v X E W φ s e S F _ fun v' W' φ' s' p' r' => ?_) (by unfold swapsWithSole; exact noSwap h.2 _ _ _) (hw _)
    rw [hx] at r'
    obtain ⟨b, ws, n, rfl, _, h1, h2, h3⟩ := VR.tup r'
    obtain ⟨z1, z2⟩ := nmX_each X.env is
    refine wpAny_assign_Tuple (x1 := k0) S.hd ⟨_, h1, rfl, _, rfl⟩ (by rw [z1, h3.size, setN_len hs]) z2 fun h' he' => ?_
    have g := Gs.of (t := s'.toks) p'.f.f.wf fun b o q => he' b o (fun z => absurd (Heap.lt_size q) (by rw [z]; exact Nat.lt_irrefl _)) q
    exact setN_ok S c (e ▸ h.1) (p'.f.gs g) (h3.ag (g.g.ag p'.f.f.wf)) hs fun φ2 s2 A B => k _ _ _ _ A ((p'.ag.trans (g.g.ag p'.f.f.wf)).trans B) rfl⟩
noncomputable def sIte (f : Bool) (c : T G d fi) (a b : SL G d fi) (p : Pos) : SS G d fi := ⟨.If c.x a.xs b.xs p, fun σ => bd (c.tr σ) fun t σ => bd (dec f t σ) fun t σ => Bool.casesOn t (b.ex σ) (a.ex σ),
  c.to.bd (R := fun t ρ fl ρ' => Bool.casesOn (motive := fun _ => Prop) t (ExsG G d fi b.xs ρ fl ρ') (ExsG G d fi a.xs ρ fl ρ')) (fun t => (Ok.dec f t).bd (R := fun t ρ fl ρ' => Bool.casesOn (motive := fun _ => Prop) t (ExsG G d fi b.xs ρ fl ρ') (ExsG G d fi a.xs ρ fl ρ')) (fun t => by
    cases t
    · exact b.eo
    · exact a.eo) fun _ t _ _ _ h q => by obtain ⟨rfl, rfl⟩ := h; exact q) fun _ t _ _ _ h q X E W φ s e c S F Q k => wpAny_If (h X E W φ s e S F _ fun W' φ' s' p' => by
    cases t
    · exact q X E W' φ' s' e c S p'.f Q fun g W2 φ2 s2 A2 B2 C2 => k _ _ _ _ A2 (p'.ag.trans B2) C2
    · exact q X E W' φ' s' e c S p'.f Q fun g W2 φ2 s2 A2 B2 C2 => k _ _ _ _ A2 (p'.ag.trans B2) C2)⟩
noncomputable def sRet (a : T G d fi) (p : Pos) : SS G d fi := ⟨.Return (some a.x) p, fun σ => bd (a.ev σ) fun o σ => pu (.ret o) σ,
  a.eo.bd (R := fun o ρ fl ρ' => fl = .ret o ∧ ρ = ρ') (fun _ => .pu fun _ => ⟨rfl, rfl⟩) fun _ _ _ _ _ h q X E W φ s e c S F Q k => by
    obtain ⟨rfl, rfl⟩ := q
    exact wpAny_Return_some (h X E W φ s e S F _ fun v' W' φ' s' p' r' => k _ _ _ _ p'.f p'.ag ⟨_, rfl, r'⟩)⟩
noncomputable def sRetV (x : Str) (i : Nat) (xp p : Pos) (h : fi.isVar x i = true) : SS G d fi := ⟨.Return (some (.Name x xp)) p, fun σ => (slot σ.ρ i).bind fun o => some (.ret o, ⟨σ.ρ.set i none, σ.tp, σ.ob⟩), by
  intro σ a σ' e q
  obtain ⟨o, e1, e⟩ := Option.bind_eq_some_iff.mp e
  cases e
  refine ⟨q, fun X E W φ s ef c S F Q k => wpAny_Return_some (load_ok S F (ef ▸ h) (slot_some e1) fun v' hx hn hv r => ?_)⟩
  have F1 : At X W (upd φ i []) s (σ.ρ.set i none) := F.drop i (fun j o q w => by rwa [List.getElem?_set_ne (Ne.symm q)] at w) fun y hy o w => by
    rw [List.getElem?_set] at w
    split at w
    · split at w <;> cases w
    · rename_i q; exact absurd rfl q
  refine k _ _ _ _ F1 (.refl ..) ⟨_, rfl, φ i, r, fun b q => ?_⟩
  have hm := F.f.mu b (.inr (.inr ⟨i, q⟩))
  obtain ⟨vs, n, he⟩ := F.ow i b q
  have hno := F.f.notOwn he
  refine ⟨hm.2, fun m => ?_, hm.1⟩
  rcases m with m | ⟨_, y, m⟩ | ⟨j, m⟩
  · exact hno.1 m
  · exact hno.2 y m
  · by_cases ej : j = i
    · rw [ej, upd_same] at m; cases m
    · rw [upd_ne _ _ ej] at m; exact ej (F.f.dis j i b m q)⟩
noncomputable def sWhil (c : T G d fi) (b : SL G d fi) (p : Pos) : SS G d fi := ⟨.While c.x b.xs [] p, told Tk.l? (fun ρ x => WhilOK G d fi c.x b.xs ρ x.1 x.2) (·.1) (fun x _ => x.2),
  .told fun x ρ h X E W φ s e cm S F Q k => wpAny_While (h X W φ s e cm S F _ k)⟩
noncomputable def sFor (x : Str) (it : It G d fi) (b : SL G d fi) (p' p : Pos) : SS G d fi := ⟨.For (.Name x p') it.x b.xs [] p, fun σ => bd (it.ev σ) fun l σ => told Tk.l? (fun ρ y => ForOK G d fi (.Name x p') b.xs l ρ y.1 y.2) (·.1) (fun y _ => y.2) σ,
  it.eo.bd (R := fun l ρ fl ρ' => ForOK G d fi (.Name x p') b.xs l ρ fl ρ') (fun l => .told fun y ρ h => h) fun _ l _ _ _ h q X E W φ s e c S F Q k => wpAny_For (h X E W φ s e S F _ fun a W' φ' s' p2 f I => q X W' φ' s' a e c S p2.f f I _ fun g W3 φ3 s3 A B C => k _ _ _ _ A (p2.ag.trans B) C) (noSet it.pl _)⟩
end
end Mine
end

section
open PySem
set_option autoImplicit false
set_option linter.unusedVariables false
namespace Mine
open PySem.W (Looks keepIn)

noncomputable def ownAt (ρ : Loc) (i : Nat) : Option (List V) := (slot ρ i).bind fun o => O.casesOn o (fun _ => none) some
theorem ownAt_some {ρ : Loc} {i : Nat} {r : List V} (e : ownAt ρ i = some r) : ρ[i]? = some (some (.own r)) := by
  obtain ⟨o, e1, e⟩ := Option.bind_eq_some_iff.mp e
  cases o with
  | val v => cases e
  | own r' => cases e; exact slot_some e1
noncomputable def setR (r : List V) (i : Int) (v : V) : Option (List V) := Int.casesOn i (fun n => (r.reverse[n]?).bind fun _ => some (r.reverse.set n v).reverse) (fun n => (r[n]?).bind fun _ => some (r.set n v))
theorem rev_set (r : List V) (n : Nat) (v : V) (h : n < r.length) : (r.set n v).reverse = r.reverse.set (r.length - 1 - n) v := by
  apply List.ext_getElem?
  intro j
  by_cases hj : j < r.length
  · rw [List.getElem?_reverse (by rwa [List.length_set]), List.length_set, List.getElem?_set, List.getElem?_set, List.getElem?_reverse hj]
    by_cases e : n = r.length - 1 - j
    · rw [if_pos e, if_pos (by omega), if_pos (by omega), if_pos (by rw [List.length_reverse]; omega)]
    · rw [if_neg e, if_neg (by omega)]
  · rw [List.getElem?_eq_none (by rw [List.length_reverse, List.length_set]; omega), List.getElem?_eq_none (by rw [List.length_set, List.length_reverse]; omega)]

section
variable {G : Gl} {d : Nat} {fi : FI}
noncomputable def sApp (x : Str) (i : Nat) (a : T G d fi) (xp ap cp p : Pos) (h : (fi.isVar x i && (ap.endLine == cp.line)) = true) : SS G d fi :=
  ⟨.Expr (.Call (.Attribute (.Name x xp) "append" ap) [a.x] [] cp) p, fun σ => (ownAt σ.ρ i).bind fun _ => bd (a.ev σ) fun y σ => (ownAt σ.ρ i).bind fun r => some (.next, ⟨σ.ρ.set i (some (.own (y.frz :: r))), σ.tp, (r.length < room) :: σ.ob⟩), by
    intro σ f σ' e q
    obtain ⟨o0, e0, e⟩ := Option.bind_eq_some_iff.mp e
    obtain ⟨⟨y, σ₁⟩, e1, e⟩ := Option.bind_eq_some_iff.mp e
    obtain ⟨r, e2, e⟩ := Option.bind_eq_some_iff.mp e
    rw [Bool.and_eq_true] at h
    cases e
    obtain ⟨q2, hk⟩ := a.eo σ y σ₁ e1 q.2
    refine ⟨q2, fun X E W φ s ef c S F Q k => wpAny_Expr_any (method_call rfl (fun z q => by cases List.mem_singleton.mp q; exact a.pl) h.2 rfl fun pl => load_ok S F (ef ▸ h.1) (ownAt_some e0) fun x' hx hn hv rr => ?_) (by unfold interactive; rw [S.fn]; rfl) rfl⟩
    obtain ⟨a0, _, rfl, vs0, n0, z0, _⟩ := rr
    refine getMethod_builtin (T := "list") ⟨_, z0, rfl⟩ PySem.F.plainAttrs_list PySem.F.slot_list_append PySem.F.type_list_append (fun a q => by cases q; exact ⟨_, z0, rfl⟩) ?_
    refine callW (K := X.C.K) (fun h _ => keeper_builtin _ h _) (PySem.Calls.spliced_cons (hk.v X E W φ s ef S F _ fun y' W' φ' s' p' r' => PySem.Calls.spliced_nil ⟨p'.f.In S, ?_⟩))
    obtain ⟨ad, hp, ea, vs, n, h1, h2, h3⟩ := still p'.f hx hn (p'.vl _ _ hv) (ownAt_some e2)
    cases ea
    have hs := h2.size
    rw [List.length_reverse] at hs
    refine call_meets PySem.F.slot_list_append ⟨_, h1, rfl⟩ PySem.F.entry_list_append (PySem.F.args_list_append_2 _ _) (list_append a0 vs n _ (by rw [hs]; exact h3)) ⟨h1, ?_⟩
    have q1 : r.length < room := q.1
    have := room_le
    obtain ⟨A, B⟩ := p'.f.turn (x := x) (i := i) (t := s'.toks) (r := y.frz :: r) (h' := s'.heap.update a0 (Obj.mapSeq (·.push y'))) (fun z hz => S.ti z x i hz hx) hp (Heap.SameBut.update ..) (p'.vl _ _ hv) (Heap.get?_update_self _ h1 rfl)
      (by rw [Array.toList_push, List.reverse_cons]; exact h2.snoc r') (by rw [List.length_cons]; omega)
    exact k _ _ _ _ A (p'.ag.trans B) rfl⟩
noncomputable def sSet (x : Str) (i : Nat) (kx a : T G d fi) (xp sp p : Pos) (h : (fi.isVar x i && !isComp a.x) = true) : SS G d fi :=
  ⟨.Assign [.Subscript (.Name x xp) kx.x sp] a.x p, fun σ => bd (a.ev σ) fun y σ => (ownAt σ.ρ i).bind fun _ => bd (kx.ev σ) fun z σ => (ownAt σ.ρ i).bind fun r => z.frz.int?.bind fun j => (setR r j y.frz).bind fun r' => some (.next, ⟨σ.ρ.set i (some (.own r')), σ.tp, σ.ob⟩), by
    intro σ f σ' e q
    obtain ⟨⟨y, σ₁⟩, e1, e⟩ := Option.bind_eq_some_iff.mp e
    obtain ⟨o0, e0, e⟩ := Option.bind_eq_some_iff.mp e
    obtain ⟨⟨z, σ₂⟩, e2, e⟩ := Option.bind_eq_some_iff.mp e
    obtain ⟨r, e3, e⟩ := Option.bind_eq_some_iff.mp e
    obtain ⟨j, e4, e⟩ := Option.bind_eq_some_iff.mp e
    obtain ⟨r', e5, e⟩ := Option.bind_eq_some_iff.mp e
    rw [Bool.and_eq_true, Bool.not_eq_true'] at h
    cases e
    obtain ⟨q1, hz⟩ := kx.eo _ _ _ e2 q
    obtain ⟨q2, hy⟩ := a.eo _ _ _ e1 q1
    refine ⟨q2, fun X E W φ s ef c S F Q k => wpAny_Assign_Subscript (hy.v X E W φ s ef S F _ fun y' W1 φ1 s1 p1 r1 => load_ok S p1.f (ef ▸ h.1) (ownAt_some e0) fun x' hx hn hv rr => hz.v X E W1 φ1 s1 ef S p1.f _ fun z' W2 φ2 s2 p2 r2 => ?_) (noSwap h.2 _ _ _)⟩
    dsimp only at e4; rw [V.int_of e4] at r2
    obtain ⟨t, rfl⟩ := r2
    obtain ⟨ad, hp, rfl, vs, n, h1, h2, h3⟩ := still p2.f hx hn (p2.vl _ _ hv) (ownAt_some e3)
    have hs := h2.size
    rw [List.length_reverse] at hs
    have hsl := sizeLine_lt
    have ry := r1.ag p2.ag
    have fin : ∀ m : Nat, r'.length = r.length → r'.reverse = r.reverse.set m y.frz → Q .next { s2 with heap := s2.heap.update ad (Obj.mapSeq (·.setIfInBounds m y')) } := fun m hl hr => by
      obtain ⟨A, B⟩ := p2.f.turn (x := x) (i := i) (t := s2.toks) (r := r') (h' := s2.heap.update ad (Obj.mapSeq (·.setIfInBounds m y'))) (fun z hz => S.ti z x i hz hx) hp (Heap.SameBut.update ..) (p2.vl _ _ hv) (Heap.get?_update_self _ h1 rfl)
        (by rw [Array.toList_setIfInBounds, hr]; exact h2.set m ry) (by rw [hl]; exact h3)
      exact k _ _ _ _ A ((p1.ag.trans p2.ag).trans B) rfl
    cases j with
    | ofNat m =>
      obtain ⟨w, e6, e5⟩ := Option.bind_eq_some_iff.mp e5
      cases e5
      have hm := (List.getElem?_eq_some_iff.mp e6).1
      rw [List.length_reverse] at hm
      exact PySem.W.ki_setAt h1 (Int.natCast_nonneg m) (by show (m : Int) < _; omega) (by rw [hs]; exact Int.ofNat_lt.mpr hm) (fin m (by simp) (by rw [List.reverse_reverse]))
    | negSucc m =>
      obtain ⟨w, e6, e5⟩ := Option.bind_eq_some_iff.mp e5
      cases e5
      have hm := (List.getElem?_eq_some_iff.mp e6).1
      refine PySem.W.ki_setBack h1 (by omega) (by rw [hs]; omega) (by omega) ?_
      have he : (Int.negSucc m + (vs.size : Int)).toNat = r.length - 1 - m := by rw [hs]; omega
      rw [he]
      exact fin _ (List.length_set ..) (rev_set r m _ hm)⟩

section
variable {M : Model} {A : Around} {R : Result → Shared → Prop} {s : Shared}
theorem code_while {test : Expr} {body : List Stmt} {env : Env} {prog : Program} {w : World}
    (h : wpAny (model prog w) A (isTrue test env (eval test env)) (fun b s₂ =>
        if b then wpAny (model prog w) A (execs body env) (fun f s₃ => match f with
            | .next | .cont => codeAny (model prog w) A (.whileLoop test body [] env) R s₃
            | .brk => R (.ok .next) s₃
            | .ret v => R (.ok (.ret v)) s₃) (notedBy (model prog w) A env fun e s' => R (.error e) s') s₂
        else R (.ok .next) s₂)
        (notedBy (model prog w) A env fun e s' => R (.error e) s') s) : codeAny (model prog w) A (.whileLoop test body [] env) R s := by
  refine codeAny_of_tree ?_
  show wpAny _ A ((whileTurn test body [] env).onRaise (fun x => do noteFrame x env; theTreesLotGoes x)) _ _ s
  refine wpAny_noted ?_
  simp only [whileTurn]
  refine wpAny_bind (wpAny_mono h (fun b s₂ h₂ => ?_) fun _ _ h' => h')
  cases b with
  | false =>
    simp only [Bool.false_eq_true, if_false] at h₂ ⊢
    exact wpAny_bind (wpAny_execs_nil (wpAny_pure h₂))
  | true =>
    simp only [if_true] at h₂ ⊢
    refine wpAny_bind (wpAny_mono h₂ (fun f s₃ h₃ => ?_) fun _ _ h' => h')
    cases f with
    | next => exact wpAny_pure ⟨rfl, h₃⟩
    | cont => exact wpAny_pure ⟨rfl, h₃⟩
    | brk => exact wpAny_pure h₃
    | ret v => exact wpAny_pure h₃
theorem code_for {x : Str} {p' : Pos} {it : Value} {body : List Stmt} {env : Env} {prog : Program} {w : World}
    (h : wpAny (model prog w) A (pyNext it) (fun r s₁ => match r with
      | none => R (.ok .next) s₁
      | some v => wpAny (model prog w) A (storeName env x v) (fun _ s₂ => wpAny (model prog w) A (execs body env) (fun f s₃ => match f with
            | .next | .cont => codeAny (model prog w) A (.forLoop (.Name x p') it body [] env) R s₃
            | .brk => R (.ok .next) s₃
            | .ret v => R (.ok (.ret v)) s₃) (notedBy (model prog w) A env fun e s' => R (.error e) s') s₂) (notedBy (model prog w) A env fun e s' => R (.error e) s') s₁) (notedBy (model prog w) A env fun e s' => R (.error e) s') s) :
    codeAny (model prog w) A (.forLoop (.Name x p') it body [] env) R s := by
  refine codeAny_of_tree ?_
  show wpAny _ A ((forTurn (.Name x p') it body [] env).onRaise (fun x => do noteFrame x env; theTreesLotGoes x)) _ _ s
  refine wpAny_noted ?_
  simp only [forTurn]
  refine wpAny_bind (wpAny_standAt (wpAny_bind (wpAny_onRaise (wpAny_mono h (fun r s₁ h₁ => ?_) fun _ _ h' => wpAny_standAt h'))))
  cases r with
  | none => exact wpAny_pure ⟨rfl, codeAny_block (wpAny_execs_nil h₁)⟩
  | some v =>
    refine wpAny_bind (wpAny_pure ?_)
    refine wpAny_bind (wpAny_mono (wpAny_assign_Name h₁) (fun _ s₂ h₂ => wpAny_bind (wpAny_mono h₂ (fun f s₃ h₃ => ?_) fun _ _ h' => h')) fun _ _ h' => h')
    cases f with
    | next => exact wpAny_pure ⟨rfl, h₃⟩
    | cont => exact wpAny_pure ⟨rfl, h₃⟩
    | brk => exact wpAny_pure h₃
    | ret v => exact wpAny_pure h₃
end
noncomputable def turn (c : T G d fi) (b : SL G d fi) (f : Bool) (σ : St) : Option (Option Fl × St) := bd (c.tr σ) fun t σ => bd (dec f t σ) fun t σ => Bool.casesOn t (pu none σ) (bd (b.ex σ) fun fl σ => pu (some fl) σ)
theorem turn_ok (c : T G d fi) (b : SL G d fi) (f : Bool) : Ok (turn c b f) fun ρ r ρ' => ∀ fl ρ'', Option.casesOn (motive := fun _ => Prop) r (fl = .next ∧ ρ'' = ρ') (fun g => Fl.casesOn (motive := fun _ => Prop) g (WhilOK G d fi c.x b.xs ρ' fl ρ'') fun o => fl = .ret o ∧ ρ'' = ρ') → WhilOK G d fi c.x b.xs ρ fl ρ'' :=
  c.to.bd (R := fun t ρ r ρ' => Bool.casesOn (motive := fun _ => Prop) t (r = none ∧ ρ = ρ') (∃ g, r = some g ∧ ExsG G d fi b.xs ρ g ρ')) (fun t => (Ok.dec f t).bd (R := fun t ρ r ρ' => Bool.casesOn (motive := fun _ => Prop) t (r = none ∧ ρ = ρ') (∃ g, r = some g ∧ ExsG G d fi b.xs ρ g ρ')) (fun t => by
    cases t
    · exact .pu fun _ => ⟨rfl, rfl⟩
    · exact b.eo.bd (R := fun g ρ r ρ' => r = some g ∧ ρ = ρ') (fun g => .pu fun _ => ⟨rfl, rfl⟩) fun _ g _ _ _ h q => by obtain ⟨rfl, rfl⟩ := q; exact ⟨g, rfl, h⟩) fun _ t _ _ _ h q => by obtain ⟨rfl, rfl⟩ := h; exact q)
    fun ρ t ρ₁ r ρ' h q fl ρ'' k X W φ s e cm S F R kk => code_while (h X _ W φ s e S F _ fun W' φ' s' p' => by
      cases t with
      | false =>
        obtain ⟨rfl, rfl⟩ := q
        obtain ⟨rfl, rfl⟩ := k
        exact kk _ _ _ _ p'.f p'.ag rfl
      | true =>
        obtain ⟨g, rfl, hb⟩ := q
        refine hb X _ W' φ' s' e cm S p'.f _ fun f W2 φ2 s2 A2 B2 C2 => ?_
        cases g with
        | next => cases C2; exact k X W2 φ2 s2 e cm S A2 R fun f W3 φ3 s3 A3 B3 C3 => kk _ _ _ _ A3 ((p'.ag.trans B2).trans B3) C3
        | ret o =>
          obtain ⟨rfl, rfl⟩ := k
          obtain ⟨v', rfl, ro⟩ := C2
          exact kk _ _ _ _ A2 (p'.ag.trans B2) ⟨v', rfl, ro⟩)
theorem for_nil {x : Str} {p' : Pos} {b : List Stmt} {ρ : Loc} : ForOK G d fi (.Name x p') b [] ρ .next ρ := fun X W φ s it e cm S F f I R k =>
  code_for (I.next S.hd F f fun s' A B C => k _ _ _ _ A B rfl)
theorem for_ok {x : Str} {p' : Pos} {i : Nat} (hx : fi.isOwn x i = true) (b : SL G d fi) (v : V) (l : List V) : Ok (fun σ => b.ex ⟨σ.ρ.set i (some (.val v)), σ.tp, σ.ob⟩) fun ρ g ρ' => ∀ fl ρ'', Fl.casesOn (motive := fun _ => Prop) g (ForOK G d fi (.Name x p') b.xs l ρ' fl ρ'') (fun o => fl = .ret o ∧ ρ'' = ρ') → ForOK G d fi (.Name x p') b.xs (v :: l) ρ fl ρ'' := by
  intro σ g σ' e q
  obtain ⟨q1, hb⟩ := b.eo _ _ _ e q
  refine ⟨q1, fun fl ρ'' k X W φ s it ef cm S F f I R kk => code_for (I.next S.hd F f fun s' A B C => fun v' rv I' => ?_)⟩
  obtain ⟨o, ho⟩ := I'.at
  refine store_ok (X := X.pinned it o) (S.pinned f.pin) (.inr cm) (A.pinned f ho) (.val rv) (ef ▸ hx) fun φ2 s2 A2 B2 => ?_
  refine hb (X.pinned it o) _ W φ2 s2 ef cm (S.pinned f.pin) A2 _ fun g' W3 φ3 s3 A3 B3 C3 => ?_
  obtain ⟨A4, f4, h4⟩ := A3.unpin f.pin f.nc
  have ag := B2.trans B3
  cases g with
  | next => cases C3; exact k X W3 φ3 s3 it ef cm S A4 f4 (I'.ag ag (h4.trans ho.symm)) R fun f W3 φ3 s3 A3 B3 C3 => kk _ _ _ _ A3 ((B.trans ag).trans B3) C3
  | ret r =>
    obtain ⟨rfl, rfl⟩ := k
    obtain ⟨v', rfl, ro⟩ := C3
    exact kk _ _ _ _ A4 (B.trans ag) ⟨v', rfl, ro.unpin⟩

theorem cellsFrom_acc : ∀ (names : List (Str × NameKind)) (n : Nat) (acc : List (Str × Addr)) (x : Str), (acc.lookup x).isSome = true → ((cellsFrom n names acc).lookup x).isSome = true
  | [], _, _, _, h => h
  | (y, k) :: r, n, acc, x, h => by
    unfold cellsFrom
    split
    · refine cellsFrom_acc r _ _ x ?_
      rw [List.lookup_cons]; split <;> first | rfl | exact h
    · exact cellsFrom_acc r n acc x h
theorem cellsFrom_has : ∀ (names : List (Str × NameKind)) (n : Nat) (acc : List (Str × Addr)) (x : Str), names.lookup x = some .cell → ((cellsFrom n names acc).lookup x).isSome = true
  | [], _, _, _, h => by cases h
  | (y, k) :: r, n, acc, x, h => by
    rw [List.lookup_cons] at h
    unfold cellsFrom
    cases q : x == y with
    | true =>
      rw [q] at h; cases h
      rw [if_pos (by decide)]
      refine cellsFrom_acc r _ _ x ?_
      rw [List.lookup_cons, q]; rfl
    | false =>
      rw [q] at h
      split <;> exact cellsFrom_has r _ _ x h
section
variable {kindOf : Str → Option NameKind}
theorem bindL_not {q : Str} : ∀ (ps : List Str) (vals : List Value) (m : Str → Option Value), q ∉ ps → bindL kindOf (ps.zip vals) m q = m q
  | [], _, _, _ => rfl
  | _ :: _, [], _, _ => rfl
  | a :: ps, b :: vals, m, hq => by
    rw [List.zip_cons_cons, bindL, bindL_not ps vals _ fun z => hq (List.mem_cons_of_mem _ z)]
    split
    · exact if_neg (fun e : q = a => hq (e ▸ List.mem_cons_self))
    · rfl
theorem bindC_not {q : Str} : ∀ (ps : List Str) (vals : List Value) (m : Str → Option Value), q ∉ ps → bindC kindOf (ps.zip vals) m q = m q
  | [], _, _, _ => rfl
  | _ :: _, [], _, _ => rfl
  | a :: ps, b :: vals, m, hq => by
    rw [List.zip_cons_cons, bindC, bindC_not ps vals _ fun z => hq (List.mem_cons_of_mem _ z)]
    split
    · rfl
    · exact if_neg (fun e : q = a => hq (e ▸ List.mem_cons_self))
theorem bindL_lookup : ∀ (ps : List Str) (vals : List Value) (m : Str → Option Value) (i : Nat) (p : Str) (v : Value), ps.Nodup → ps[i]? = some p → vals[i]? = some v → kindOf p = some .local → bindL kindOf (ps.zip vals) m p = some v
  | [], _, _, _, _, _, _, h, _, _ => nomatch h
  | q :: ps, [], _, i, _, _, _, _, h, _ => nomatch h
  | q :: ps, u :: vals, m, 0, p, v, hn, h1, h2, hk => by
    cases h1; cases h2
    rw [List.zip_cons_cons, bindL, if_pos hk, bindL_not _ _ _ (List.nodup_cons.mp hn).1]; exact if_pos rfl
  | q :: ps, u :: vals, m, i + 1, p, v, hn, h1, h2, hk => by
    rw [List.zip_cons_cons, bindL]
    exact bindL_lookup ps vals _ i p v (List.nodup_cons.mp hn).2 h1 h2 hk
theorem bindC_lookup : ∀ (ps : List Str) (vals : List Value) (m : Str → Option Value) (i : Nat) (p : Str) (v : Value), ps.Nodup → ps[i]? = some p → vals[i]? = some v → kindOf p ≠ some .local → bindC kindOf (ps.zip vals) m p = some v
  | [], _, _, _, _, _, _, h, _, _ => nomatch h
  | q :: ps, [], _, i, _, _, _, _, h, _ => nomatch h
  | q :: ps, u :: vals, m, 0, p, v, hn, h1, h2, hk => by
    cases h1; cases h2
    rw [List.zip_cons_cons, bindC, if_neg hk, bindC_not _ _ _ (List.nodup_cons.mp hn).1]; exact if_pos rfl
  | q :: ps, u :: vals, m, i + 1, p, v, hn, h1, h2, hk => by
    rw [List.zip_cons_cons, bindC]
    exact bindC_lookup ps vals _ i p v (List.nodup_cons.mp hn).2 h1 h2 hk
end
noncomputable def loc0 (args : List V) (n : Nat) : Loc := args.map (fun v => some (.val v)) ++ List.replicate n none
theorem call_of {a : Addr} {f : FD} {args : List V} {o : O} {n : Nat} {g : Fl} {ρ' : Loc} (hf : G.fd.lookup a = some f) (hn : args.length = f.ps.length) (h : ExsG G d f.fi f.st (loc0 args n) g ρ') (hg : g = .ret o ∨ (g = .next ∧ o = .val .none)) : CallOK G (d + 1) a args o := by
  intro C A W s vals R g hh hdp hun hkeep hgens hos wf r k
  obtain ⟨ob, fd, fo⟩ := g.fd a f hf
  have hlen : vals.length = f.ps.length := r.length.trans hn
  have hkind : ∀ x ∈ f.ps.zip vals, fd.scope.names.lookup x.1 = some .local ∨ (fd.scope.names.lookup x.1 = some .cell ∧ ((cellsFrom (s.heap.objs.size + 1) fd.scope.names []).lookup x.1).isSome = true) := fun x hx => by
    rw [fo.names]
    rcases fo.own x.1 (List.of_mem_zip hx).1 with q | q
    · exact .inl q
    · exact .inr ⟨q, cellsFrom_has _ _ _ _ q⟩
  refine codeAny_call_cells (by omega) (hkeep _ _ fo.at_) fo.dat (g.nolimit.keeps hkeep) (fo.rec_.keeps hkeep) fo.body (fo.bind vals hlen) fo.clo hkind (fun s₁ IC => ?_) fo.co fo.gen fo.kind
  generalize he : callEnvC fd s.heap.objs.size a = env at IC ⊢
  have hL : env.locals = s.heap.objs.size := by rw [← he]; rfl
  have hNm : env.scope.names = f.fi.names := by rw [← he]; exact fo.names
  have hcs : env.cells = cellsFrom (s.heap.objs.size + 1) fd.scope.names [] := by rw [← he]; rfl
  obtain ⟨h₁, tk, rfl⟩ := IC.toInCall.same
  have hk := IC.toInCall.keep
  have cAbove : ∀ x c, env.cells.lookup x = some c → s.heap.objs.size ≤ c := fun x c hc => by
    have := IC.above x c (mem_of_lookup hc); rw [hL] at this; exact Nat.le_of_lt this
  have hko : ∀ x, env.kindOf x = f.fi.names.lookup x := fun x => by unfold Env.kindOf; rw [hNm]
  let X : FC := ⟨C, A.deeper env, env, f.fi, s.heap.get?, W, true⟩
  have S : FS G d X := by
    refine ⟨g, hkeep, hh, ?_, ?_, ?_, ?_, ?_, hNm, ?_, ?_, fo.inj⟩
    · show A.depth + 1 + 2 * d + 10 ≤ _; omega
    · show A.units + 3 + 20 * d + deep + 100 < _; omega
    · show env.scope.kind = _; rw [← he]; exact fo.kind
    · show env.globals = _; rw [← he]; exact fo.gl
    · show env.builtins = _; rw [← he]; exact fo.bi
    · rintro x (q | q)
      · have q : f.fi.names.lookup x = some .cell := q
        rw [← fo.names] at q
        have := cellsFrom_has fd.scope.names (s.heap.objs.size + 1) [] x q
        rw [← hcs] at this
        exact Option.isSome_iff_exists.mp this
      · exact absurd rfl (fo.free _ (mem_of_lookup q))
    · intro x y c hx hy; exact name_of_addr IC.apart (mem_of_lookup hx) (mem_of_lookup hy)
  have gs : Gs W s W { s with heap := h₁, toks := tk } := Gs.of wf hk
  have nof : ∀ b, s.heap.objs.size ≤ b → s.heap.get? b = none ∧ ¬ W b := fun b q => ⟨none_of_le q, fun w => by obtain ⟨_, z⟩ := wf b w; rw [none_of_le q] at z; cases z⟩
  have F : At X W (fun _ => []) { s with heap := h₁, toks := tk } (loc0 args n) := by
    refine ⟨hgens, hos, ⟨hk, ?_, gs.g.wf, fun _ _ _ q => q, fun _ _ _ q => (by cases q), ?_, ?_⟩, ?_, fun _ _ q => (by cases q)⟩
    · rintro b (q | ⟨_, x, q⟩ | ⟨i, q⟩)
      · exact nof b (by rw [show b = env.locals from q, hL]; exact Nat.le_refl _)
      · exact nof b (cAbove x b q)
      · cases q
    · obtain ⟨o, es, ep, h1, h2, h3, _⟩ := IC.toInCall.ns; exact ⟨o, es, ep, h1, h2, h3⟩
    · intro x c hc; obtain ⟨o, h1, h2⟩ := IC.cell x c hc; exact ⟨o, _, h1, h2⟩
    · intro x i hx w hw hkd
      have hx : f.fi.tbl.lookup x = some i := hx
      unfold loc0 at hw
      have hi : i < args.length := by
        rcases Nat.lt_or_ge i args.length with q | q
        · exact q
        · rw [List.getElem?_append_right (by rwa [List.length_map]), List.getElem?_replicate] at hw
          split at hw <;> cases hw
      rw [List.getElem?_append_left (by rwa [List.length_map]), List.getElem?_map, Option.map_eq_some_iff] at hw
      obtain ⟨w', hw1, hw2⟩ := hw
      cases hw2
      obtain ⟨u, hu, hr⟩ := r.get hw1
      obtain ⟨p, hp⟩ : ∃ p, f.ps[i]? = some p := ⟨_, List.getElem?_eq_getElem (by rw [← hn]; exact hi)⟩
      obtain rfl : x = p := fo.inj x p i hx (fo.at0 i p hp)
      refine ⟨u, ?_, rfl, hr.ag (gs.g.ag wf)⟩
      rcases fo.own x (List.mem_of_getElem? hp) with q | q
      · exact .inl ⟨(hko x).trans q, _, IC.toInCall.ns, bindL_lookup f.ps vals _ i x u fo.nodup hp hu ((hko x).trans q)⟩
      · have hc := cellsFrom_has fd.scope.names (s.heap.objs.size + 1) [] x (by rw [fo.names]; exact q)
        rw [← hcs] at hc
        obtain ⟨c, hc⟩ := Option.isSome_iff_exists.mp hc
        refine .inr ⟨.inl ((hko x).trans q), c, hc, ?_⟩
        have := IC.cell x c hc
        rw [bindC_lookup f.ps vals _ i x u fo.nodup hp hu (by rw [hko, q]; decide)] at this
        exact this
  refine h X _ W _ _ rfl rfl S F _ fun fw W' φ' s' A' B' C' => ?_
  have gs' : Gs W s W' s' := ⟨⟨fun b o e => A'.f.pin b o e, fun a q => B'.w a q, A'.f.wf, fun b o e q => A'.f.w0 b o e q⟩, A'.gens.trans hgens.symm, A'.os.trans hos.symm⟩
  rcases hg with rfl | ⟨rfl, rfl⟩
  · obtain ⟨v', rfl, p, ro, hp⟩ := C'
    refine k v' W' s' gs' ?_
    cases o with
    | val v => exact ro.2
    | own r' =>
      obtain ⟨b, rfl, rfl, z⟩ := ro
      obtain ⟨w1, _, w3⟩ := hp b List.mem_cons_self
      exact ⟨b, rfl, w3, w1, z⟩
  · cases C'
    exact k _ W' s' gs' rfl
end
end Mine
end

section
open PySem
set_option autoImplicit false
set_option linter.unusedVariables false
namespace Mine
open PySem.W (Looks keepIn)

def relab (outer names : List (Str × NameKind)) : List (Str × NameKind) := names.map fun (n, k) => if (k == .free && outer.lookup n == some .cell) then (n, .cell) else (n, k)
def FI.inner (fi : FI) (sc : Scope) (x : Str) (i : Nat) : FI := ⟨relab fi.names sc.names, (x, i) :: fi.tbl⟩
def compName (fi : FI) (sc : Scope) (x : Str) (y : Str × NameKind) : Bool := match y.2 with
  | .local => sc.names.lookup y.1 == some .local && (y.1 == x || (fi.tbl.lookup y.1).isNone)
  | .free => sc.names.lookup y.1 == some .free && (fi.names.lookup y.1 == some .cell || fi.names.lookup y.1 == some .free)
  | .cell => false
  | _ => (fi.tbl.lookup y.1).isNone
def compOk (fi : FI) (sc : Scope) (x : Str) (i : Nat) : Bool := sc.kind == .function && sc.names.lookup x == some .local && (sc.names.all (compName fi sc x)) && (fi.tbl.all fun p => p.2 != i)
theorem relab_lookup (outer : List (Str × NameKind)) (y : Str) : ∀ names : List (Str × NameKind), (relab outer names).lookup y = (names.lookup y).map fun k => if (k == .free && outer.lookup y == some .cell) then .cell else k
  | [] => rfl
  | (n, k) :: r => by
    have ih := relab_lookup outer y r
    show List.lookup y ((if (k == .free && outer.lookup n == some .cell) then (n, .cell) else (n, k)) :: relab outer r) = _
    have e : (if (k == .free && outer.lookup n == some .cell) then (n, NameKind.cell) else (n, k)) = (n, if (k == .free && outer.lookup n == some .cell) then NameKind.cell else k) := by split <;> rfl
    rw [e, List.lookup_cons, List.lookup_cons, ih]
    cases q : y == n with
    | true => rw [beq_iff_eq.mp q]; rfl
    | false => rfl
theorem relabel_names {fi : FI} {env : Env} (sc : Scope) (hf : env.scope.kind = .function) (hn : env.scope.names = fi.names) : (relabel sc env).names = relab fi.names sc.names := by
  unfold relabel relab
  simp only [hf, Env.kindOf, hn, beq_self_eq_true, Bool.and_true]
structure CompC (fi : FI) (sc : Scope) (x : Str) (i : Nat) : Prop where
  kind : sc.kind = .function
  own : sc.names.lookup x = some .local
  names : ∀ y, y ∈ sc.names → compName fi sc x y = true
  new : ∀ y j, fi.tbl.lookup y = some j → j ≠ i
theorem CompC.of {fi : FI} {sc : Scope} {x : Str} {i : Nat} (h : compOk fi sc x i = true) : CompC fi sc x i := by
  simp only [compOk, Bool.and_eq_true, beq_iff_eq, List.all_eq_true, bne_iff_ne, ne_eq] at h
  exact ⟨h.1.1.1, h.1.1.2, h.1.2, fun y j hy => h.2 (y, j) (mem_of_lookup hy)⟩
section
variable {fi : FI} {sc : Scope} {x : Str} {i : Nat}
theorem CompC.cell (h : CompC fi sc x i) : ∀ y ∈ sc.names, y.2 ≠ .cell := fun y hy q => by
  have := h.names y hy; unfold compName at this; rw [q] at this; cases this
theorem CompC.local (h : CompC fi sc x i) : ∀ y ∈ sc.names, y.2 = .local → sc.names.lookup y.1 = some .local := fun y hy q => by
  have := h.names y hy; unfold compName at this; rw [q] at this
  exact beq_iff_eq.mp (Bool.and_eq_true_iff.mp this).1
theorem CompC.free (h : CompC fi sc x i) {y : Str} (hy : sc.names.lookup y = some .free) : fi.names.lookup y = some .cell ∨ fi.names.lookup y = some .free := by
  have := h.names _ (mem_of_lookup hy); unfold compName at this
  simp only [Bool.and_eq_true, beq_iff_eq, Bool.or_eq_true] at this; exact this.2
theorem CompC.isFree (h : CompC fi sc x i) {y : Str} {j : Nat} (hne : y ≠ x) (hy : fi.tbl.lookup y = some j) (hk : (fi.inner sc x i).names.lookup y ≠ none) : sc.names.lookup y = some .free := by
  have hk : (relab fi.names sc.names).lookup y ≠ none := hk
  rw [relab_lookup] at hk
  cases z : sc.names.lookup y with
  | none => rw [z] at hk; exact absurd rfl hk
  | some kd =>
    have := h.names _ (mem_of_lookup z)
    unfold compName at this
    cases kd with
    | free => rfl
    | cell => cases this
    | «local» =>
      simp only [Bool.and_eq_true, Bool.or_eq_true, beq_iff_eq] at this
      rcases this.2 with z1 | z1
      · exact absurd z1 hne
      · rw [hy] at z1; cases z1
    | globalExplicit => dsimp only at this; rw [hy] at this; cases this
    | globalImplicit => dsimp only at this; rw [hy] at this; cases this
theorem CompC.cells (h : CompC fi sc x i) {y : Str} (hy : (fi.inner sc x i).names.lookup y = some .cell ∨ (fi.inner sc x i).names.lookup y = some .free) : sc.names.lookup y = some .free := by
  have hy : (relab fi.names sc.names).lookup y = some .cell ∨ (relab fi.names sc.names).lookup y = some .free := hy
  rw [relab_lookup] at hy
  cases z : sc.names.lookup y with
  | none => rw [z] at hy; rcases hy with q | q <;> cases q
  | some kd =>
    rw [z] at hy
    cases kd with
    | free => rfl
    | cell => exact absurd rfl (h.cell _ (mem_of_lookup z))
    | _ => rcases hy with q | q <;> cases q
end
theorem closure_ok (env : Env) : ∀ (names : List (Str × NameKind)), (∀ y ∈ names, y.2 = .free → ∃ c, env.cells.lookup y.1 = some c) → ∀ acc : List (Str × Addr),
    ∃ cl : List (Str × Addr), (forIn names acc fun (y : Str × NameKind) cs => if (y.2 == NameKind.free) = true then do let a ← cellOf env y.1; pure (ForInStep.yield ((y.1, a) :: cs)) else pure (ForInStep.yield cs) : Sem (List (Str × Addr))) = pure cl ∧
      (∀ n c, (n, c) ∈ cl → (n, c) ∈ acc ∨ env.cells.lookup n = some c) ∧ (∀ y ∈ names, y.2 = .free → (cl.lookup y.1).isSome = true) ∧ (∀ n, (acc.lookup n).isSome = true → (cl.lookup n).isSome = true)
  | [], _, acc => ⟨acc, rfl, fun n c h => .inl h, fun y h => (by cases h), fun n h => h⟩
  | (n, k) :: r, h, acc => by
    by_cases q : k = .free
    · subst q
      obtain ⟨c, hc⟩ := h (n, .free) List.mem_cons_self rfl
      obtain ⟨cl, e, h1, h2, h3⟩ := closure_ok env r (fun y hy => h y (List.mem_cons_of_mem _ hy)) ((n, c) :: acc)
      refine ⟨cl, ?_, fun m d hd => ?_, fun y hy hk => ?_, fun m hm => h3 m ?_⟩
      · rw [List.forIn_cons]
        have e1 : cellOf env n = pure c := by unfold cellOf; rw [hc]
        simp only [beq_self_eq_true, if_true, e1]
        exact e
      · rcases h1 m d hd with z | z
        · rcases List.mem_cons.mp z with z | z
          · cases z; exact .inr hc
          · exact .inl z
        · exact .inr z
      · rcases List.mem_cons.mp hy with z | z
        · subst z; exact h3 n (by rw [List.lookup_cons, beq_self_eq_true]; rfl)
        · exact h2 y z hk
      · rw [List.lookup_cons]; split <;> first | rfl | exact hm
    · obtain ⟨cl, e, h1, h2, h3⟩ := closure_ok env r (fun y hy => h y (List.mem_cons_of_mem _ hy)) acc
      refine ⟨cl, ?_, h1, fun y hy hk => ?_, h3⟩
      · rw [List.forIn_cons]
        have : (k == NameKind.free) = false := by simpa using q
        simp only [this, Bool.false_eq_true, if_false]
        exact e
      · rcases List.mem_cons.mp hy with z | z
        · subst z; exact absurd hk q
        · exact h2 y z hk
theorem closureFor_ok {env : Env} {scope : Scope} (h : ∀ y ∈ scope.names, y.2 = .free → ∃ c, env.cells.lookup y.1 = some c) :
    ∃ cl : List (Str × Addr), closureFor scope env = pure cl ∧ (∀ n c, cl.lookup n = some c → env.cells.lookup n = some c) ∧ (∀ y ∈ scope.names, y.2 = .free → (cl.lookup y.1).isSome = true) := by
  obtain ⟨cl, e, h1, h2, _⟩ := closure_ok env scope.names h []
  refine ⟨cl, ?_, fun n c hc => (h1 n c (mem_of_lookup hc)).elim (fun z => nomatch z) id, h2⟩
  have : closureFor scope env = (forIn scope.names ([] : List (Str × Addr)) fun (y : Str × NameKind) cs => if (y.2 == NameKind.free) = true then do let a ← cellOf env y.1; pure (ForInStep.yield ((y.1, a) :: cs)) else pure (ForInStep.yield cs) : Sem (List (Str × Addr))) >>= fun cs => pure cs := rfl
  rw [this, e]; rfl

section
variable {A : Around} {R : Result → Shared → Prop} {s : Shared}
theorem code_comp {elt iter : Expr} {x : Str} {px : Pos} {scope : Scope} {pos : Pos} {it acc : Value} {env : Env} {prog : Program} {w : World}
    (h : wpAny (model prog w) A (pyNext it) (fun r s₁ => match r with
      | none => R (.ok .next) s₁
      | some v => wpAny (model prog w) A (storeName env x v) (fun _ s₂ => wpAny (model prog w) A (eval elt env) (fun y s₄ =>
              wpAny (model prog w) A (call (.builtin "list.append") [acc, y]) (fun _ s₅ => codeAny (model prog w) A (.compLoop (.ListComp elt [⟨.Name x px, iter, [], 0⟩] scope pos) 0 it acc env) R s₅) (notedBy (model prog w) A env fun e s' => R (.error e) s') s₄) (notedBy (model prog w) A env fun e s' => R (.error e) s') s₂) (notedBy (model prog w) A env fun e s' => R (.error e) s') s₁) (notedBy (model prog w) A env fun e s' => R (.error e) s') s) :
    codeAny (model prog w) A (.compLoop (.ListComp elt [⟨.Name x px, iter, [], 0⟩] scope pos) 0 it acc env) R s := by
  refine codeAny_of_tree ?_
  show wpAny _ A ((compTurn (.ListComp elt [⟨.Name x px, iter, [], 0⟩] scope pos) 0 it acc env).onRaise (fun x => do noteFrame x env; theTreesLotGoes x)) _ _ s
  refine wpAny_noted ?_
  rw [compTurn_list]
  refine wpAny_bind (wpAny_standAt (wpAny_bind (wpAny_mono h (fun r s₁ h₁ => ?_) fun _ _ h' => h')))
  cases r with
  | none => exact wpAny_pure h₁
  | some v =>
    refine wpAny_bind (wpAny_pure ?_)
    refine wpAny_bind (wpAny_mono (wpAny_assign_Name h₁) (fun _ s₂ h₂ => wpAny_bind (wpAny_tests_nil ?_)) fun _ _ h' => h')
    exact wpAny_bind (wpAny_bind (wpAny_mono h₂ (fun x s₄ h₄ => wpAny_bind (wpAny_mono h₄ (fun _ s₅ h₅ => wpAny_pure (wpAny_pure ⟨rfl, h₅⟩)) fun _ _ h' => h')) fun _ _ h' => h'))
end

noncomputable def CompL (G : Gl) (d : Nat) (fi : FI) (elt : Expr) (i : Nat) (ρ : Loc) (l vs : List V) : Prop :=
  @List.rec V (fun _ => List V → Prop) (fun vs => vs = []) (fun v _ ih vs => ∃ w r, vs = w :: r ∧ EvV G d fi elt (ρ.set i (some (.val v))) w (ρ.set i (some (.val v))) ∧ ih r) l vs
noncomputable def shr (ρ : Loc) : Loc := ρ.map fun o => o.bind fun o => O.casesOn o (fun v => some (.val v)) fun _ => none
theorem shr_get {ρ : Loc} {j : Nat} {o : O} (e : (shr ρ)[j]? = some (some o)) : ∃ v, o = .val v ∧ ρ[j]? = some (some (.val v)) := by
  unfold shr at e
  rw [List.getElem?_map] at e
  obtain ⟨o', e1, e2⟩ := Option.map_eq_some_iff.mp e
  cases o' with
  | none => cases e2
  | some o' => cases o' with
    | own r => cases e2
    | val v => cases e2; exact ⟨v, rfl, e1⟩

section
variable {G : Gl} {d : Nat} {fi : FI}
theorem comp_loop {elt iter : Expr} {x : Str} {px : Pos} {i : Nat} {sc : Scope} {pos : Pos} {ρ₀ : Loc} (hx : fi.isOwn x i = true) (hl : fi.names.lookup x = some .local) : ∀ {l vs : List V} {r : List V} {ρ : Loc} {X : FC} {W : WS} {φ : Nat → List Addr} {s : Shared} {it acc : Addr} {R : Result → Shared → Prop},
    CompL G d fi elt i ρ₀ l vs → X.fi = fi → FS G d X → (∀ o, ρ.set i o = ρ₀.set i o) → At X W φ s ρ → Fre X W φ it → ItR W s.heap it l → Fre X W φ acc → acc ≠ it → OwnAt W s.heap acc r → l.length + r.length ≤ room →
    (∀ W' φ' s' ρ', At X W' φ' s' ρ' → Ag W s.heap W' s'.heap → Fre X W' φ' acc → OwnAt W' s'.heap acc (vs.reverse ++ r) → R (.ok .next) s') → codeAny X.C.M X.A (.compLoop (.ListComp elt [⟨.Name x px, iter, [], 0⟩] sc pos) 0 (.ref it) (.ref acc) X.env) R s := by
  intro l
  induction l with
  | nil =>
    intro vs r ρ X W φ s it acc R h e S hρ F f I fa hne O hr k
    cases h
    refine code_comp (I.next S.hd F f fun s' A B C => k _ _ _ _ A B fa ?_)
    obtain ⟨vs, n, e, _⟩ := id O
    exact O.ag B ((C acc _ hne e).trans e.symm)
  | cons v l ih =>
    intro vs r ρ X W φ s it acc R h e S hρ F f I fa hne O hr k
    obtain ⟨w, ws, rfl, hw, hl'⟩ := h
    refine code_comp (I.next S.hd F f fun s' A B C => fun v' rv I' => ?_)
    obtain ⟨o, ho⟩ := I'.at
    obtain ⟨zs, n, he, _⟩ := id O
    have he1 := C acc _ hne he
    have O1 := O.ag B (he1.trans he.symm)
    have F1 := A.pinned f ho
    have fa1 : Fre (X.pinned it o) W φ acc := ⟨by rw [FC.pinned_ne hne]; exact fa.pin, fa.w, fa.mu, fa.nc⟩
    have F2 := F1.pinned fa1 he1
    have S1 : FS G d (X.pinned it o) := S.pinned f.pin
    have S2 : FS G d ((X.pinned it o).pinned acc (lstO zs n)) := S1.pinned fa1.pin
    refine store_ok (X := (X.pinned it o).pinned acc (lstO zs n)) S2 (.inl (show X.fi.names.lookup x = _ by rw [e]; exact hl)) F2 (.val rv) (show X.fi.isOwn x i = true by rw [e]; exact hx) fun φ2 s2 A2 B2 => ?_
    rw [hρ] at A2
    refine hw ((X.pinned it o).pinned acc (lstO zs n)) _ W φ2 s2 e S2 A2 _ fun w' W3 φ3 s3 p3 r3 => ?_
    obtain ⟨A4, fa4, h4⟩ := p3.f.unpin fa1.pin fa.nc
    obtain ⟨A5, f5, h5⟩ := A4.unpin f.pin f.nc
    have fa5 : Fre X W3 φ3 acc := ⟨fa.pin, fa4.w, fa4.mu, fa.nc⟩
    have ag := B2.trans p3.ag
    have O3 := O1.ag ag (h4.trans he1.symm)
    obtain ⟨vs, m, g1, g2, g3⟩ := O3
    have hs := g2.size
    rw [List.length_reverse] at hs
    refine call_meets PySem.F.slot_list_append ⟨_, g1, rfl⟩ PySem.F.entry_list_append (PySem.F.args_list_append_2 _ _) (list_append acc vs m _ (by rw [hs]; exact g3)) ⟨g1, ?_⟩
    have hsb : Heap.SameBut acc s3.heap (s3.heap.update acc (Obj.mapSeq (·.push w'))) := Heap.SameBut.update ..
    obtain ⟨A6, B6, _⟩ := A5.loose fa5 (t := s3.toks) fun b o q e => (hsb.2 b q).trans e
    rw [List.length_cons] at hr
    have := room_le
    refine ih hl' e S (ρ := ρ₀.set i (some (.val v))) (fun o => by rw [List.set_set]) A6 f5 (I'.ag (ag.trans B6) ((hsb.2 it (Ne.symm hne)).trans (h5.trans ho.symm))) fa5 hne (r := w :: r) ⟨_, _, Heap.get?_update_self _ g1 rfl, ?_, ?_⟩ (by rw [List.length_cons]; omega) fun W' φ' s' ρ' a b c d => k W' φ' s' ρ' a ((B.trans (ag.trans B6)).trans b) c ?_
    · rw [Array.toList_push, List.reverse_cons]; exact (g2.snoc r3).ag B6
    · rw [List.length_cons]; omega
    · rw [List.reverse_cons, List.append_assoc]; exact d

theorem comp_core {elt : Expr} {x : Str} {px : Pos} {i : Nat} {sc : Scope} {pos pos' : Pos} {it : It G d fi} {ρ ρ₁ : Loc} {l vs : List V} (hc : CompC fi sc x i) (h1 : ItG G d fi it.x ρ l ρ₁) (h2 : CompL G d (fi.inner sc x i) elt i ((shr ρ₁).set i none) l vs) (hr : l.length ≤ room)
    {X : FC} {E : Value → Shared → Prop} {W : WS} {φ : Nat → List Addr} {s : Shared} {use : Option (Value → Sem Unit)} {Q : Value → Shared → Prop} (e : X.fi = fi) (S : FS G d X) (F : At X W φ s ρ)
    (k : ∀ acc C W' φ' s', Pst X W s W' φ' s' ρ₁ → Fre X W' φ' C → (∃ m, s'.heap.Ns C m) → acc ≠ C → Fre X W' φ' acc → OwnAt W' s'.heap acc vs.reverse → compPost X.C.M X.A E use Q (.ref acc) C (.ok .next) s') :
    wpAny X.C.M X.A (comprehension (.ListComp elt [⟨.Name x px, it.x, [], 0⟩] sc pos) sc X.env pos' (newList []) false (eval it.x X.env) use) Q E s := by
  subst e
  obtain ⟨cl, hcl, hcl1, hcl2⟩ := closureFor_ok (env := X.env) (scope := sc) fun y hy q => S.cel y.1 (hc.free (by
    have := hc.names y hy; unfold compName at this; rw [q] at this; exact beq_iff_eq.mp (Bool.and_eq_true_iff.mp this).1))
  refine wpAny_comprehension_free (g := ⟨.Name x px, it.x, [], 0⟩) (gs := []) rfl (noSet it.pl X.env) hcl hc.kind hc.local ?_
  refine h1 X E W φ s rfl S F _ fun a W1 φ1 s1 p1 f1 I1 => wpAny_newObj_type ?_
  refine wpAny_newFunctionEnv hc.cell (by intro y hy; cases hy) (fun h3 hns hsb => ?_) hc.kind
  generalize hh2 : s1.heap.push { cls := .type "list", data := .seq ([] : List Value).toArray } = h2' at hns hsb ⊢
  have hz2 : h2'.objs.size = s1.heap.objs.size + 1 := by rw [← hh2]; exact Heap.size_push ..
  have hk2 : ∀ b o, s1.heap.get? b = some o → h2'.get? b = some o := fun b o q => by rw [← hh2]; exact Heap.get?_push_of_some _ q
  have hk3 : ∀ b o, h2'.get? b = some o → h3.get? b = some o := fun b o q => (hsb.2 b (fun z => absurd (Heap.lt_size q) (by rw [z]; exact Nat.lt_irrefl _))).trans (Heap.get?_push_of_some _ q)
  have ha3 : h3.get? s1.heap.objs.size = some (lstO ([] : List Value).toArray 0) := hk3 _ _ (by rw [← hh2]; exact Heap.get?_push_size _ rfl)
  have g3 : Gs W1 s1 W1 { s1 with heap := h3, toks := s1.toks + ([] : List (Str × Value)).length } := Gs.of p1.f.f.wf fun b o q => hk3 b o (hk2 b o q)
  have F3 := p1.f.gs g3
  have n1 : s1.heap.get? s1.heap.objs.size = none := fresh_size _
  have n2 : s1.heap.get? h2'.objs.size = none := none_of_le (by rw [hz2]; exact Nat.le_succ _)
  have fa : Fre X W1 φ1 s1.heap.objs.size := .of p1.f n1
  have fC : Fre X W1 φ1 h2'.objs.size := .of p1.f n2
  obtain ⟨io, hio⟩ := I1.at
  have ita : s1.heap.objs.size ≠ a := fun q => by rw [q, hio] at n1; cases n1
  have itC : a ≠ h2'.objs.size := fun q => by rw [← q, hio] at n2; cases n2
  have aC : s1.heap.objs.size ≠ h2'.objs.size := by rw [hz2]; exact Nat.ne_of_lt (Nat.lt_succ_self _)
  -- the comprehension's frame
  generalize hce : ({ newEnv sc h2'.objs.size X.env.globals cl X.env.qual none .none (some X.env) builtinsNs with scope := relabel sc X.env } : Env) = cenv
  have cL : cenv.locals = h2'.objs.size := by rw [← hce]; rfl
  have cC : cenv.cells = cl := by rw [← hce]; rfl
  have cN : cenv.scope.names = relab X.fi.names sc.names := by rw [← hce]; exact relabel_names sc S.fn S.nm
  let Y : FC := ⟨X.C, X.A, cenv, X.fi.inner sc x i, fun b => if b = s1.heap.objs.size ∨ b = h2'.objs.size ∨ b = a then none else h3.get? b, W1, false⟩
  have pinY : ∀ b o, s1.heap.get? b = some o → b ≠ a → Y.pin b = some o := fun b o q z => by
    have e1 : ¬ (b = s1.heap.objs.size ∨ b = h2'.objs.size ∨ b = a) := by
      rintro (w | w | w)
      · rw [w, n1] at q; cases q
      · rw [w, n2] at q; cases q
      · exact z w
    exact (if_neg e1).trans (hk3 b o (hk2 b o q))
  have cellv : ∀ y c, cl.lookup y = some c → ∃ o v, h3.get? c = some o ∧ o.data = .cell v := fun y c q => F3.f.cells y c (hcl1 y c q)
  have SY : FS G d Y := by
    refine ⟨S.g, fun b o q => pinY b o (p1.f.keep S b o q) fun z => ?_, S.hd, S.dp, S.un, ?_, ?_, ?_, cN, fun y q => ?_, ?_, ?_⟩
    · have := S.base b o q; rw [z, f1.pin] at this; cases this
    · show cenv.scope.kind = _; rw [← hce]; exact hc.kind
    · show cenv.globals = _; rw [← hce]; exact S.gl
    · show cenv.builtins = _; rw [← hce]; exact S.bi
    · show ∃ c, cenv.cells.lookup y = some c
      rw [cC]; exact Option.isSome_iff_exists.mp (hcl2 (y, .free) (mem_of_lookup (hc.cells q)) rfl)
    · intro y z c hy hz
      have hy : cenv.cells.lookup y = some c := hy
      have hz : cenv.cells.lookup z = some c := hz
      rw [cC] at hy hz
      exact S.inj y z c (hcl1 y c hy) (hcl1 z c hz)
    · intro y z j hy hz
      have hy : ((x, i) :: X.fi.tbl).lookup y = some j := hy
      have hz : ((x, i) :: X.fi.tbl).lookup z = some j := hz
      rw [List.lookup_cons] at hy hz
      split at hy <;> split at hz
      · rename_i q1 _ q2; rw [beq_iff_eq.mp q1, beq_iff_eq.mp q2]
      · cases hy; exact absurd rfl (hc.new z _ hz)
      · cases hz; exact absurd rfl (hc.new y _ hy)
      · exact S.ti y z j hy hz
  have FY : At Y W1 (fun _ => []) { s1 with heap := h3, toks := s1.toks + ([] : List (Str × Value)).length } ((shr ρ₁).set i none) := by
    refine ⟨F3.gens, F3.os, ⟨fun b o q => ?_, ?_, F3.f.wf, fun _ _ _ q => q, fun _ _ _ q => (by cases q), ?_, fun y c q => ?_⟩, fun y j hy o ho hkd => ?_, fun _ _ q => (by cases q)⟩
    · have q : (if b = s1.heap.objs.size ∨ b = h2'.objs.size ∨ b = a then none else h3.get? b) = some o := q
      split at q
      · cases q
      · exact q
    · rintro b (q | ⟨q, _⟩ | ⟨_, q⟩)
      · have q : b = h2'.objs.size := q.trans cL
        exact ⟨if_pos (.inr (.inl q)), fun w => fC.w (q ▸ w)⟩
      · cases q
      · cases q
    · obtain ⟨o, es, ep, e1, e2, e3, _⟩ := hns
      exact ⟨o, es, ep, (show h3.get? cenv.locals = _ by rw [cL]; exact e1), e2, e3⟩
    · have q : cenv.cells.lookup y = some c := q
      rw [cC] at q; exact cellv y c q
    · have hy : ((x, i) :: X.fi.tbl).lookup y = some j := hy
      have hkd : (X.fi.inner sc x i).names.lookup y ≠ none := by
        have hkd : cenv.kindOf y ≠ none := hkd
        unfold Env.kindOf at hkd; rw [cN] at hkd; exact hkd
      rw [List.lookup_cons] at hy
      split at hy
      · cases hy
        rw [List.getElem?_set] at ho
        split at ho
        · split at ho <;> cases ho
        · rename_i q; exact absurd rfl q
      · rename_i q
        have hj : j ≠ i := hc.new y j hy
        rw [List.getElem?_set_ne (Ne.symm hj)] at ho
        obtain ⟨v, rfl, ho2⟩ := shr_get ho
        have hfree := hc.isFree (fun e => by rw [e, beq_self_eq_true] at q; cases q) hy hkd
        have hout := hc.free hfree
        have hk2 : X.env.kindOf y ≠ none := by rw [S.kind]; rcases hout with z | z <;> rw [z] <;> simp
        obtain ⟨v', a1, a2⟩ := F3.lr y j hy _ ho2 hk2
        refine ⟨v', ?_, rfl, a2.2⟩
        rcases a1 with ⟨b1, _⟩ | ⟨b1, c, b2, b3⟩
        · rw [S.kind] at b1; rcases hout with z | z <;> rw [z] at b1 <;> cases b1
        · have hcy : cl.lookup y = some c := by
            obtain ⟨c', hc'⟩ := Option.isSome_iff_exists.mp (hcl2 (y, .free) (mem_of_lookup hfree) rfl)
            have := hcl1 y c' hc'
            rw [b2] at this; cases this; exact hc'
          refine .inr ⟨?_, c, (show cenv.cells.lookup y = _ by rw [cC]; exact hcy), b3⟩
          show cenv.kindOf y = _ ∨ cenv.kindOf y = _
          unfold Env.kindOf; rw [cN, relab_lookup, hfree]
          by_cases z : (NameKind.free == NameKind.free && X.fi.names.lookup y == some .cell) = true
          · left; exact congrArg some (if_pos z)
          · right; exact congrArg some (if_neg z)
  have fY : ∀ b, Fre X W1 φ1 b → (b = s1.heap.objs.size ∨ b = h2'.objs.size ∨ b = a) → b ≠ h2'.objs.size → Fre Y W1 (fun _ => []) b := fun b f q hb => by
    refine ⟨if_pos q, f.w, ?_, fun y z => ?_⟩
    · rintro (z | ⟨z, _⟩ | ⟨_, z⟩)
      · exact hb (z.trans cL)
      · cases z
      · cases z
    · have z : cenv.cells.lookup y = some b := z
      rw [cC] at z
      exact f.nc y (hcl1 y b z)
  have I3 : ItR W1 h3 a l := I1.ag (g3.g.ag p1.f.f.wf) ((hk3 _ _ (hk2 _ _ hio)).trans hio.symm)
  have O3 : OwnAt W1 h3 s1.heap.objs.size [] := ⟨_, _, ha3, rfl, Nat.zero_le _⟩
  have hxl : (X.fi.inner sc x i).names.lookup x = some .local := by
    show (relab _ _).lookup x = _
    rw [relab_lookup, hc.own]; rfl
  have hxo : (X.fi.inner sc x i).isOwn x i = true := by
    unfold FI.isOwn
    rw [hxl, show (X.fi.inner sc x i).tbl.lookup x = some i by show List.lookup x ((x, i) :: _) = _; rw [List.lookup_cons, beq_self_eq_true], beq_self_eq_true]; rfl
  have loop : codeAny X.C.M X.A (.compLoop (.ListComp elt [⟨.Name x px, it.x, [], 0⟩] sc pos) 0 (.ref a) (.ref s1.heap.objs.size) cenv) (compPost X.C.M X.A E use Q (.ref s1.heap.objs.size) h2'.objs.size) { s1 with heap := h3, toks := s1.toks + ([] : List (Str × Value)).length } := by
    refine comp_loop hxo hxl h2 (X := Y) rfl SY (fun _ => rfl) FY (fY a f1 (.inr (.inr rfl)) itC) I3 (fY _ fa (.inl rfl) aC) ita O3 (by simpa using hr) fun W' φ' s' ρ' A' B' fa' O' => ?_
    have A2 := A'.f
    obtain ⟨A4, B4, V4⟩ := p1.f.move (D := (· = a)) (W' := W') (h' := s'.heap) (t := s'.toks) (fun b q => q ▸ f1) (fun b o q z => A2.pin b o (pinY b o z q)) (fun b q => B'.w b q) A2.wf fun b o q z w => A2.w0 b o (pinY b o z q) w
    have A5 : At X W' φ1 s' ρ₁ := ⟨A'.gens, A'.os, A4.f, A4.lr, A4.ow⟩
    have nm : ∀ b, Fre X W1 φ1 b → ¬ W' b → Fre X W' φ1 b := fun b f w => ⟨f.pin, w, f.mu, f.nc⟩
    refine k _ _ W' φ1 s' ⟨A5, p1.ag.trans B4, fun y v q => V4 y v (p1.vl y v q)⟩ (nm _ fC (A2.mu _ (.inl cL.symm)).2) ?_ aC (nm _ fa fa'.w) (by rw [List.append_nil] at O'; exact O')
    obtain ⟨o, es, ep, e1, e2, e3⟩ := A2.ns
    have e1 : s'.heap.get? cenv.locals = some o := e1
    rw [cL] at e1
    exact ⟨fun y => nsFind es y, o, es, ep, e1, e2, e3, fun _ => rfl⟩
  exact codeAny_compStart_list loop (I3.self (s := { s1 with heap := h3, toks := s1.toks + ([] : List (Str × Value)).length }) loop)
theorem comp_left {X : FC} {W W' : WS} {φ' : Nat → List Addr} {s s' : Shared} {ρ₁ : Loc} {C acc : Addr} {r : List V} {h' : Heap} (p : Pst X W s W' φ' s' ρ₁) (fC : Fre X W' φ' C) (hne : acc ≠ C) (fa : Fre X W' φ' acc) (O : OwnAt W' s'.heap acc r) (hs : Heap.SameBut C s'.heap h') :
    Pst X W s W' φ' { s' with heap := h' } ρ₁ ∧ RO X W' φ' h' (.own r) (.ref acc) := by
  obtain ⟨A, B, V⟩ := p.f.loose fC (t := s'.toks) fun b o q e => (hs.2 b q).trans e
  refine ⟨⟨A, p.ag.trans B, fun x v q => V x v (p.vl x v q)⟩, [acc], ⟨acc, rfl, rfl, O.ag B (hs.2 acc hne)⟩, fun b q => ?_⟩
  cases List.mem_singleton.mp q
  exact ⟨fa.w, fa.mu, fa.pin⟩
noncomputable def CompS (G : Gl) (d : Nat) (fi : FI) (elt : Expr) (i : Nat) (l : List V) (ρ : Loc) (vs : List V) : Prop := CompL G d fi elt i ((shr ρ).set i none) l vs ∧ l.length ≤ room
noncomputable def evComp (it : It G d fi) (elt : Expr) (fi' : FI) (i : Nat) (σ : St) : Option (O × St) := bd (it.ev σ) fun l σ => told Tk.vs? (fun ρ vs => CompS G d fi' elt i l ρ vs) (fun vs => O.own vs.reverse) (fun _ ρ => ρ) σ
theorem evComp_ok {it : It G d fi} {elt : Expr} {fi' : FI} {i : Nat} : Ok (evComp it elt fi' i) fun ρ o ρ' => ∃ l vs, ItG G d fi it.x ρ l ρ' ∧ CompS G d fi' elt i l ρ' vs ∧ o = .own vs.reverse :=
  it.eo.bd (R := fun l ρ o ρ' => ∃ vs, CompS G d fi' elt i l ρ vs ∧ o = .own vs.reverse ∧ ρ = ρ') (fun l => .told fun vs ρ q => ⟨vs, q, rfl, rfl⟩) fun _ l _ _ _ h q => by
    obtain ⟨vs, q1, q2, rfl⟩ := q; exact ⟨l, vs, h, q1, q2⟩
noncomputable def eComp (x : Str) (i : Nat) (px : Pos) (it : It G d fi) (sc : Scope) (elt : T G d (fi.inner sc x i)) (pos : Pos) (h : compOk fi sc x i = true) : T G d fi :=
  .mk' (.ListComp elt.x [⟨.Name x px, it.x, [], 0⟩] sc pos) (evComp it elt.x (fi.inner sc x i) i) rfl (evComp_ok.mono fun ρ o ρ' q X E W φ s e S F Q k => by
    obtain ⟨l, vs, h1, h2, rfl⟩ := q
    rw [eval_ListComp]
    refine comp_core (use := none) (it := it) (.of h) h1 h2.1 h2.2 e S F fun acc C W' φ' s' p fC hn hne fa O => ?_
    obtain ⟨m, hn⟩ := hn
    refine ⟨m, hn, fun h' hs => ?_⟩
    obtain ⟨p2, r⟩ := comp_left p fC hne fa O hs
    exact k _ _ _ _ p2 r) fun _ => rfl
noncomputable def sAsgC (y : Str) (j : Nat) (p' p : Pos) (x : Str) (i : Nat) (px : Pos) (it : It G d fi) (sc : Scope) (elt : T G d (fi.inner sc x i)) (pos : Pos)
    (h : (compOk fi sc x i && fi.isOwn y j && (fi.names.lookup y == some .local && p'.line == pos.line && !(sc.names.any fun (n, k) => n == y && (k == .local || k == .cell)))) = true) : SS G d fi :=
  ⟨.Assign [.Name y p'] (.ListComp elt.x [⟨.Name x px, it.x, [], 0⟩] sc pos) p, fun σ => bd (evComp it elt.x (fi.inner sc x i) i σ) fun o σ => setL j o σ,
  evComp_ok.bd (R := fun o ρ fl ρ' => fl = .next ∧ ρ' = ρ.set j (some o)) (fun _ => .setL fun _ => ⟨rfl, rfl⟩) fun ρ o ρ₁ fl ρ' q q' X E W φ s e c S F Q k => by
    obtain ⟨l, vs, h1, h2, rfl⟩ := q
    obtain ⟨rfl, rfl⟩ := q'
    rw [Bool.and_eq_true, Bool.and_eq_true] at h
    have hsw : swapsWith (.ListComp elt.x [⟨.Name x px, it.x, [], 0⟩] sc pos) (some (.Name y p')) p.line X.env = pure true := by
      show (pure (X.env.blockKind == .function && X.env.kindOf y == some .local && p'.line == pos.line && !(sc.names.any fun (n, k) => n == y && (k == .local || k == .cell))) : Sem Bool) = _
      rw [S.kind, e, show X.env.blockKind = .function by unfold Env.blockKind; rw [S.fn]; rfl, beq_self_eq_true, Bool.true_and, h.2]
    rw [exec_Assign_Name_used _ _ _ _ hsw]
    refine wpAny_bind (wpAny_standAt (wpAny_bind ?_))
    show wpAny _ X.A (do let _ ← comprehension (.ListComp elt.x [⟨.Name x px, it.x, [], 0⟩] sc pos) sc X.env _ (newList []) false (eval it.x X.env) (some (assign (.Name y p') X.env))) _ _ s
    refine wpAny_bind (wpAny_mono (comp_core (use := some (assign (.Name y p') X.env)) (Q := fun _ s' => Q .next s') (it := it) (.of h.1.1) h1 h2.1 h2.2 e S F fun acc C W' φ' s' p2 fC hn hne fa O => ?_) (fun _ s' hq => wpAny_pure (wpAny_pure hq)) fun _ _ e => e)
    obtain ⟨m, hn⟩ := hn
    obtain ⟨o, es, ep, e1, e2, e3, _⟩ := hn
    show wpAny _ X.A (assign (.Name y p') X.env (.ref acc)) _ _ _
    have ro : RO (X.pinned C o) W' φ' s'.heap (.own vs.reverse) (.ref acc) := ⟨[acc], ⟨acc, rfl, rfl, O⟩, fun b q => by cases List.mem_singleton.mp q; exact ⟨fa.w, fa.mu, by rw [FC.pinned_ne hne]; exact fa.pin⟩⟩
    refine wpAny_assign_Name (store_ok (X := X.pinned C o) (S.pinned fC.pin) (.inr c) (p2.f.pinned fC e1) ro (show X.fi.isOwn y j = true by rw [e]; exact h.1.2) fun φ2 s2 A B => ?_)
    obtain ⟨A2, fC2, e4⟩ := A.unpin fC.pin fC.nc
    refine ⟨fun y => nsFind es y, ⟨o, es, ep, e4, e2, e3, fun _ => rfl⟩, fun h' hs => ?_⟩
    obtain ⟨A3, B3, _⟩ := A2.loose fC2 (t := s2.toks) fun b o q e => (hs.2 b q).trans e
    exact k _ _ _ _ A3 ((p2.ag.trans B).trans B3) rfl⟩
end
end Mine
end

section
open PySem
set_option autoImplicit false
set_option linter.unusedVariables false
namespace Mine
open PySem.W (Frag kitOne keepIn Looks)

theorem texts_reads {W : WS} {h : Heap} : ∀ {l : List V} {l' : List Value} {ss : List (List Nat)}, VRs W h l l' → textsOf l = some ss → (∃ as, ReadsAll h l' (ss.map fun z => PyData.str ⟨z.toArray⟩) as) ∧ PyData.canLayAll0 (ss.map fun z => PyData.str ⟨z.toArray⟩) = true ∧ PyData.depthAll (ss.map fun z => PyData.str ⟨z.toArray⟩) = 0
  | [], _, _, r, e => by cases r; cases e; exact ⟨⟨_, .nil⟩, rfl, rfl⟩
  | v :: l, _, _, r, e => by
    obtain ⟨v', r', rfl, rv, rl⟩ := VRs.inv r
    obtain ⟨z, e1, e⟩ := Option.bind_eq_some_iff.mp e
    obtain ⟨t, e2, e⟩ := Option.bind_eq_some_iff.mp e
    cases e
    rw [V.str_of e1] at rv
    obtain ⟨tk, rfl, ok, _⟩ := rv
    obtain ⟨⟨as, a⟩, b, c⟩ := texts_reads rl e2
    refine ⟨⟨_, .cons (.str _ tk) a⟩, ?_, ?_⟩
    · show (PyData.canLay0 (.str ⟨z.toArray⟩) && PyData.canLayAll0 _) = true
      rw [b, Bool.and_true]; simpa [PyData.canLay0] using ok
    · show max (PyData.depth (.str ⟨z.toArray⟩)) (PyData.depthAll _) = 0
      rw [c]; rfl
section
variable {G : Gl} {d : Nat} {fi : FI}
noncomputable def kIn (x : V) (y : O) : Option (Bool × List Prop) := y.val?.bind fun y => x.str?.bind fun z => y.tup?.bind fun l => (textsOf l).bind fun ss => some (ss.any fun t => t == z, [])
theorem primIn : PrimC G d .In kIn := by
  intro x y t ps e q X E W φ s ρ S F x' y' rx ry Q k
  obtain ⟨v, e1, e⟩ := Option.bind_eq_some_iff.mp e
  obtain ⟨z, e2, e⟩ := Option.bind_eq_some_iff.mp e
  obtain ⟨l, e3, e⟩ := Option.bind_eq_some_iff.mp e
  obtain ⟨ss, e4, e⟩ := Option.bind_eq_some_iff.mp e
  cases e; rw [O.val_of e1, V.tup_of e3] at ry; rw [V.str_of e2] at rx
  obtain ⟨tk, rfl, ok, _⟩ := rx
  obtain ⟨a, vs, n, rfl, _, h1, h2, h3⟩ := VR.tup ry
  obtain ⟨⟨as, ra⟩, b, c⟩ := texts_reads h3 e4
  refine SeqAt.in_tuple_reads (.tuple h1 rfl rfl ra) (.str _ tk) b (by simpa [PyData.canLay0] using ok) (by rw [c]; have := S.u; simp; omega) ?_
  have he : (ss.map fun z => PyData.str ⟨z.toArray⟩).any (fun y => PyData.eqv y (.str ⟨z.toArray⟩)) = ss.any fun t => t == z := by
    rw [List.any_map]
    congr 1
    funext t
    show PyData.eqv (.str ⟨t.toArray⟩) (.str ⟨z.toArray⟩) = (t == z)
    by_cases q : t = z
    · subst q; simp [PyData.eqv]
    · have q' : (t == z) = false := by simpa using q
      rw [q']
      simp [PyData.eqv, q]
  rw [he]; exact k s.toks
noncomputable def eIn : T G d fi → T G d fi → Pos → T G d fi := eCmp .In kIn primIn

noncomputable def eTell (a : T G d fi) : T G d fi :=
  have eo : Ok (fun σ => bd (a.ev σ) fun o σ => told Tk.r? (fun _ o' => o = o') id (fun _ ρ => ρ) σ) (EvG G d fi a.x) := a.eo.bd (R := fun o ρ o' ρ' => o = o' ∧ ρ = ρ') (fun o => Ok.told (f := Tk.r?) (p := fun _ o' => o = o') (r := id) (ρ := fun _ ρ => ρ) fun o' ρ q => ⟨q, rfl⟩) fun _ _ _ _ _ h q => by
    obtain ⟨rfl, rfl⟩ := q; exact h
  ⟨a.x, _, a.pk, a.tr, a.pl, eo, a.po, a.to⟩

noncomputable def namesAt (p : Program) (k : Nat) : List (Str × NameKind) := match p.main.body[k]? with
  | some (.FunctionDef _ _ _ _ _ _ sc _ _ _) => sc.names
  | _ => []
noncomputable def bodyAt (p : Program) (k : Nat) : List Stmt := match p.main.body[k]? with
  | some (.FunctionDef _ _ b _ _ _ _ _ _ _) => b
  | _ => []
noncomputable def obs {α : Type} (r : Option (α × St)) : List Prop := Option.casesOn r [] fun p => p.2.ob
noncomputable def out {α : Type} (r : Option (α × St)) : Option (α × Loc × List Tk) := r.bind fun p => some (p.1, p.2.ρ, p.2.tp)
theorem Ok.run {α : Type} {f : St → Option (α × St)} {S : Loc → α → Loc → Prop} (h : Ok f S) {ρ ρ' : Loc} {tp : List Tk} {a : α} {P : Prop} (e : out (f ⟨ρ, tp, []⟩) = some (a, ρ', [])) (o : All (obs (f ⟨ρ, tp, []⟩)) = P) (p : P) : S ρ a ρ' := by
  subst o
  obtain ⟨⟨a', ρ2, tp2, ob2⟩, e1, e2⟩ := Option.bind_eq_some_iff.mp e
  cases e2
  have : All ob2 := by rw [e1] at p; exact p
  exact (h _ _ _ e1 this).2
theorem call_run {a : Addr} {f : FD} {args : List V} {o : O} {n : Nat} {ρ' : Loc} {tp : List Tk} {P : Prop} (B : SL G d f.fi) (hf : G.fd.lookup a = some f) (hB : B.xs = f.st) (hn : args.length = f.ps.length)
    (e : out (B.ex ⟨loc0 args n, tp, []⟩) = some (.ret o, ρ', [])) (ob : All (obs (B.ex ⟨loc0 args n, tp, []⟩)) = P) (p : P) : CallOK G (d + 1) a args o :=
  call_of hf hn (hB ▸ B.eo.run e ob p) (.inl rfl)
end
end Mine
end

section
open PySem PySem.W
set_option autoImplicit false
set_option linter.unusedVariables false
namespace Mine
open PySem.W (Frag kitOne keepIn Looks)

theorem items_ints {R : WRecords} : ∀ {xs : List WData}, WShape.hasItems R xs .int = true → ∃ ns : List Int, xs = ns.map .int
  | [], _ => ⟨[], rfl⟩
  | x :: xs, h => by
    simp only [WShape.hasItems, Bool.and_eq_true] at h
    obtain ⟨i, rfl⟩ := hasW_int h.1
    obtain ⟨ns, rfl⟩ := items_ints h.2
    exact ⟨i :: ns, rfl⟩
theorem law_args {l : OpenLaw} (hm : l.most = some 63) (hb : l.bound = none) {args : List WData} (hpre : l.row.toRowW.claim.pre args = true) : ∃ ns : List Int, args = [.list (ns.map .int)] ∧ ns.length ≤ 63 := by
  obtain ⟨h1, h2⟩ := pre_splitW hpre
  obtain ⟨d, r, rfl, h3, h4⟩ := hasAllW_cons (e := .list .int) (es := []) h1
  obtain rfl := hasAllW_nil h4
  obtain ⟨xs, rfl, h5⟩ := hasW_list h3
  obtain ⟨ns, rfl⟩ := items_ints h5
  refine ⟨ns, rfl, ?_⟩
  have h2' : l.pre.holds [] { args := [.list (ns.map .int)] } = true := h2
  unfold OpenLaw.pre at h2'
  rw [hm, hb] at h2'
  by_cases q : ns.length ≤ 63
  · exact q
  · exfalso
    have hl : less? (WData.int 63) (WData.int (ns.length : Int)) = some true := by
      simp [less?, Num.less?]; omega
    simp [WTm.holds, WTm.value, hl] at h2'
theorem reads_ints {W : WS} {h : Heap} {P : Params} : ∀ {ns : List Int} {vs : List Value}, WellAll P h vs (ns.map .int) → VRs W h (ns.map .int) vs
  | [], _, .nil => rfl
  | n :: ns, _, .cons h r => by cases h with | int i t => exact .cons ⟨t, rfl⟩ (reads_ints r)

noncomputable def codeChk (K : Frag) (cd : Value) (q : Str) : Bool := match cd with
  | .ref c => (match K.lookup c with
    | some o => (match o.data with
      | .fields vs => (match (vs[1]? : Option Value) with
        | some (.str z _) => z == q
        | _ => false)
      | _ => false)
    | none => false)
  | _ => false
theorem codeChk_of {K : Frag} {h : Heap} (X : K.In h) {cd : Value} {q : Str} (e : codeChk K cd q = true) : h.CodeRec cd q := by
  unfold codeChk at e
  split at e
  · split at e
    · rename_i o ho
      split at e
      · rename_i vs hd
        split at e
        · rename_i z t hz
          rw [beq_iff_eq.mp e] at hz
          exact ⟨_, o, vs, t, rfl, X _ _ ho, hd, hz⟩
        · cases e
      · cases e
    · cases e
  · cases e
noncomputable def fdOf (K : Frag) (a : Addr) : Option FuncData := (K.lookup a).bind fun o => match o.data with
  | .func fd => some fd
  | _ => none
noncomputable def fdChk (K : Frag) (f : FD) (fd : FuncData) : Bool :=
  fd.closure.isEmpty && fd.globals == mainGlobals && fd.builtins == builtinsNs && !fd.scope.isCoroutine && !fd.scope.isGenerator && fd.scope.kind == .function && codeChk K fd.code fd.qualname &&
  fd.params.posonlyargs.isEmpty && fd.params.args.map (·.arg) == f.ps && fd.params.vararg.isNone && fd.params.kwonlyargs.isEmpty && fd.params.kwarg.isNone && fd.defaults == .none &&
  decide f.ps.Nodup && (f.ps.all fun p => f.fi.names.lookup p == some .local || f.fi.names.lookup p == some .cell) && (f.fi.names.all fun x => x.2 != .free) &&
  (f.ps.zipIdx.all fun x => f.fi.tbl.lookup x.1 == some x.2) && decide ((f.fi.tbl.map (·.2)).Nodup)
noncomputable def bodyIs (K : Frag) (a : Addr) : Option (FuncBody × List (Str × NameKind)) := (fdOf K a).bind fun fd => some (fd.body, fd.scope.names)
structure FnAt (K : Frag) (a : Addr) (f : FD) : Prop where
  body : bodyIs K a = some (.stmts f.st, f.fi.names)
  chk : (Option.casesOn (fdOf K a) false fun fd => fdChk K f fd : Bool) = true
theorem zip_lookup : ∀ (ps : List Str) (vals : List Value), ps.Nodup → vals.length = ps.length → (ps.filterMap fun n => ((ps.zip vals).lookup n).map (n, ·)) = ps.zip vals := by
  have key : ∀ (ps : List Str) (vals : List Value) (pre : List (Str × Value)), (∀ p ∈ ps, pre.lookup p = none) → ps.Nodup → vals.length = ps.length → (ps.filterMap fun n => ((pre ++ ps.zip vals).lookup n).map (n, ·)) = ps.zip vals := by
    intro ps
    induction ps with
    | nil => intro vals pre _ _ _; rfl
    | cons p ps ih =>
      intro vals pre hpre hn hl
      cases vals with
      | nil => cases hl
      | cons v vals =>
        rw [List.zip_cons_cons, List.filterMap_cons]
        have e : ((pre ++ (p, v) :: ps.zip vals).lookup p).map (p, ·) = some (p, v) := by
          rw [List.lookup_append, hpre p List.mem_cons_self]; simp
        rw [e]
        have := ih vals (pre ++ [(p, v)]) (fun q hq => ?_) (List.nodup_cons.mp hn).2 (by simpa using hl)
        · rw [List.append_assoc] at this
          simp only [List.singleton_append] at this
          rw [this]
        · rw [List.lookup_append, hpre q (List.mem_cons_of_mem _ hq)]
          have hne : (q == p) = false := by
            rw [beq_eq_false_iff_ne]; rintro rfl; exact (List.nodup_cons.mp hn).1 hq
          simp [List.lookup_cons, hne]
  intro ps vals hn hl
  have := key ps vals [] (fun _ _ => rfl) hn hl
  simpa using this
theorem zip_some : ∀ (ps : List Str) (vals : List Value), vals.length = ps.length → ∀ p ∈ ps, ((ps.zip vals).lookup p).isSome = true
  | [], _, _, p, h => by cases h
  | q :: ps, [], hl, _, _ => by cases hl
  | q :: ps, v :: vals, hl, p, h => by
    rw [List.zip_cons_cons, List.lookup_cons]
    split
    · rfl
    · rename_i z
      rcases List.mem_cons.mp h with r | r
      · rw [r, beq_self_eq_true] at z; cases z
      · exact zip_some ps vals (by simpa using hl) p r
theorem bind_plain {fd : FuncData} {as : List Arg} {d : List Expr} {kd : List (Option Expr)} (hp : fd.params = { posonlyargs := [], args := as, vararg := none, kwonlyargs := [], kw_defaults := kd, kwarg := none, defaults := d }) (hd : fd.defaults = .none)
    (hn : (as.map (·.arg)).Nodup) (vals : List Value) (hl : vals.length = (as.map (·.arg)).length) : bindArgs fd ⟨vals, []⟩ = pure ((as.map (·.arg)).zip vals) := by
  have hmiss : ((as.map (·.arg)).filter fun n => (((as.map (·.arg)).zip vals).lookup n).isNone) = [] := by
    rw [List.filter_eq_nil_iff]
    intro p hp q
    have := zip_some (as.map (·.arg)) vals hl p hp
    cases z : ((as.map (·.arg)).zip vals).lookup p with
    | none => rw [z] at this; cases this
    | some v => rw [z] at q; cases q
  have hseq : seqItems? Value.none = pure none := rfl
  have hz := zip_lookup (as.map (·.arg)) vals hn hl
  unfold bindArgs
  rw [hp, hd, hseq]
  have hle : ¬ vals.length > (as.map (·.arg)).length := by omega
  simp only [List.map_nil, List.nil_append, List.forIn_nil, pure_bind, Option.getD_none, List.length_nil, Nat.zero_sub, List.drop_nil, Nat.sub_zero, List.zip_nil_right, List.append_nil, List.take_length]
  simp [hmiss, hz]
  intro q
  rw [List.length_map] at hl
  omega
theorem fn_of {C : Cx} {a : Addr} {f : FD} (X : C.K.In C.h) (h : FnAt C.K a f) : ∃ o fd, FnOk C a f o fd := by
  have h0 := h.body
  unfold bodyIs fdOf at h0
  obtain ⟨fd, e1, e2⟩ := Option.bind_eq_some_iff.mp h0
  obtain ⟨o, ho, e4⟩ := Option.bind_eq_some_iff.mp e1
  have hfd : fdOf C.K a = some fd := e1
  have hc := h.chk
  rw [hfd] at hc
  have h : fdChk C.K f fd = true := hc
  obtain ⟨b1, b2⟩ := Prod.mk.inj (Option.some.inj e2)
  split at e4
  · rename_i fd' hd
    cases e4
    unfold fdChk at h
    simp only [Bool.and_eq_true, Bool.not_eq_true', beq_iff_eq, decide_eq_true_eq, List.isEmpty_iff, Option.isNone_iff_eq_none, List.all_eq_true, Bool.or_eq_true, bne_iff_ne, ne_eq] at h
    obtain ⟨⟨⟨⟨⟨⟨⟨⟨⟨⟨⟨⟨⟨⟨⟨⟨⟨h2, h3⟩, h4⟩, h5⟩, h6⟩, h7⟩, h8⟩, h9⟩, h10⟩, h11⟩, h12⟩, h13⟩, h14⟩, h16⟩, h17⟩, h18⟩, h19⟩, h20⟩ := h
    refine ⟨o, fd, ⟨X _ _ ho, hd, b1, h2, h3, h4, h5, h6, h7, codeChk_of X h8, ?_, h16, b2, h17, h18, ?_, ?_⟩⟩
    · intro vals hl
      rw [← h10] at hl h16 ⊢
      refine bind_plain (as := fd.params.args) (d := fd.params.defaults) (kd := fd.params.kw_defaults) ?_ h14 h16 vals hl
      generalize fd.params = pp at h9 h11 h12 h13
      obtain ⟨a1, a2, a3, a4, a5, a6, a7⟩ := pp
      dsimp only at h9 h11 h12 h13
      subst h9 h11 h12 h13; rfl
    · intro i p hp
      exact h19 (p, i) (by rw [List.mem_zipIdx_iff_getElem?]; simpa using hp)
    · intro y z j hy hz
      have m1 := mem_of_lookup hy
      have m2 := mem_of_lookup hz
      obtain ⟨a, la, ea⟩ := List.getElem_of_mem m1
      obtain ⟨b, lb, eb⟩ := List.getElem_of_mem m2
      have : (f.fi.tbl.map (·.2))[a]'(by simpa using la) = (f.fi.tbl.map (·.2))[b]'(by simpa using lb) := by
        rw [List.getElem_map, List.getElem_map, ea, eb]
      have hab : a = b := (List.getElem_inj h20).mp this
      subst hab
      rw [ea] at eb
      exact (Prod.mk.inj eb).1
  · cases e4

noncomputable def topOf (K : Frag) : Array DictEntry := match K.lookup mainGlobals with
  | some o => (match o.data with
    | .dict es _ => es
    | _ => #[])
  | none => #[]
noncomputable def isTop (K : Frag) : Bool := match K.lookup mainGlobals with
  | some o => (match o.data with
    | .dict _ _ => true
    | _ => false)
  | none => false
theorem top_of {K : Frag} {h : Heap} {mg : Str → Option Value} (X : K.In h) (g : h.Ns mainGlobals mg) (e : isTop K = true) (x : Str) : mg x = nsFind (topOf K) x := by
  obtain ⟨o, es, ep, h1, h2, h3, h4⟩ := g
  unfold isTop at e
  split at e
  · rename_i o' ho
    split at e
    · rename_i es' ep' hd
      have h1' := X _ _ ho
      rw [h1] at h1'
      cases h1'
      rw [hd] at h2
      cases h2
      unfold topOf
      rw [ho]
      dsimp only
      rw [hd]
      exact (h4 x).symm
    · cases e
  · cases e
theorem mem_fd {a : Addr} {f : FD} : ∀ {l : List (Addr × FD)}, l.lookup a = some f → (a, f) ∈ l
  | [], e => nomatch e
  | (b, g) :: l, e => by
    rw [List.lookup_cons] at e
    split at e
    · rename_i q; cases e; rw [beq_iff_eq.mp q]; exact List.mem_cons_self
    · exact List.mem_cons_of_mem _ (mem_fd e)
structure GChk (G : Gl) (K : Frag) : Prop where
  top : isTop K = true
  fn : (G.fn.all fun x => nsFind (topOf K) x.1 == some (.ref x.2) && keepIn K (.ref x.2)) = true
  bn : (G.bn.all fun x => nsFind (topOf K) x == none && x != "__name__") = true
  isi : (([.none, .bool, .int, .str, .tup, .list] : List Kd).all fun k => G.ty.all fun t => kitOne K k.v (.type t.n) == some (isiK k t)) = true
  fd : ∀ a f, (a, f) ∈ G.fd → FnAt K a f
theorem GChk.ok {G : Gl} {C : Cx} (c : GChk G C.K) (X : C.K.In C.h) (g : C.h.Ns mainGlobals C.mg) (b : C.h.Ns builtinsNs C.mb) (bi : ∀ x : Str, x ≠ "__name__" → C.mb x = bootBuiltins x) (nl : C.h.NoLimit) : GOk G C where
  X := X
  g := g
  b := b
  bi := bi
  nolimit := nl
  isi := fun k t ht => beq_iff_eq.mp (List.all_eq_true.mp (List.all_eq_true.mp c.isi k (by cases k <;> decide)) t ht)
  bn := fun x hx => by
    have := List.all_eq_true.mp c.bn x hx
    rw [Bool.and_eq_true, beq_iff_eq, bne_iff_ne] at this
    rw [top_of X g c.top]; exact this
  fn := fun x a hx => by
    have := List.all_eq_true.mp c.fn _ (mem_of_lookup hx)
    rw [Bool.and_eq_true, beq_iff_eq] at this
    rw [top_of X g c.top]; exact this
  fd := fun a f hf => fn_of X (c.fd a f (mem_fd hf))

theorem join {l : OpenLaw} {q : Program} {loose : List Str} {XP : (Str → Option Value) → Heap → Prop} {K : Params → Frag} {as' : List Addr} {e' : ∀ P, as' = (K P).map (·.1)} {d : DefRec} {kwd : List (Str × Expr)} (G : Gl) (a : Addr) (dep : Nat)
    (hm : l.most = some 63) (hb : l.bound = none) (hname : G.fn.lookup d.name = some a) (hdep : dep ≤ 100)
    (chk : ∀ P, GChk G (K P))
    (law : ∀ ns : List Int, ns.length ≤ 63 → CallOK G dep a [.lst (ns.map .int)] (.val (.bool true))) :
    WalkO q loose XP (kHook K as' e').says l.row.toRowW d kwd fun f vs => PySem.call f vs := by
  intro w s₀ s₁ mg mb G' Y fa o pm cd doc dV kV ho hd hcd hD hmg hg args vals as hpre hlay hrd hwl hlo
  have KX := kIn_of Y
  obtain ⟨ns, rfl, hlen⟩ := law_args hm hb hpre
  cases hwl with | cons hw1 hw2 =>
  cases hw2
  cases hw1 with | @list b vs xs hob hitems =>
  let C : Cx := ⟨K w.params, s₁.heap, s₁.os, l.row.toRowW.prog, w, mg, mb⟩
  have g : GOk G C := GChk.ok (C := C) (chk w.params) KX G'.T.g G'.T.b G'.T.builtins G'.T.nolimit
  have hfa : fa = a := by
    have z : some (Value.ref fa) = some (Value.ref a) := hmg.symm.trans (g.fn _ _ hname).1
    cases z; rfl
  subst hfa
  have hz : (ns.map V.int).length ≤ sizeLine := by rw [List.length_map, sizeLine_eq]; omega
  have rv : VRs (fun x => x = b) s₁.heap [.lst (ns.map .int)] [.ref b] := .cons ⟨b, vs.toArray, 0, rfl, rfl, hob, hz, (List.toList_toArray (as := vs)).symm ▸ reads_ints hitems⟩ rfl
  refine wpAny_call (law ns hlen C callerA _ s₁ [.ref b] _ g rfl (by show 1 + 300 + 2 * dep + 9 ≤ 1000; omega) (by show 4 + 20 * dep + 2000 + 90 < 9900; omega) (fun _ _ e => e) hg rfl (fun x q => ⟨_, q ▸ hob⟩) rv fun v' W' s' gs r => ?_)
  cases r
  refine GoodW.toG ⟨.inl ⟨.bool true, .bool true, [], rfl, ?_, .bool true, ?_, ?_⟩, gs.g.k, gs.os, gs.gens.trans hg⟩
  · intro cls; rfl
  · show (WShape.has [] (.bool true) .bool && WTm.holds [] (.eq .res (.lit (.bool true))) { args := _, res := some (.bool true), after := _ }) = true
    simp [WShape.has, WShape.arms, WTm.holds, WTm.value, same]
  · intro _; exact ⟨List.nodup_nil, fun a ha => by cases ha⟩
end Mine
end

section
open PySem
set_option autoImplicit false
set_option linter.unusedVariables false
namespace Mine
section
variable {G : Gl} {d : Nat} {fi : FI}
noncomputable def res (r : Option (Fl × St)) : Option O := r.bind fun p => Fl.casesOn p.1 none fun o => List.casesOn p.2.tp (some o) fun _ _ => none
theorem res_of {r : Option (Fl × St)} {o : O} (e : res r = some o) : ∃ ρ ob, r = some (.ret o, ⟨ρ, [], ob⟩) := by
  obtain ⟨⟨f, ρ, tp, ob⟩, e1, e⟩ := Option.bind_eq_some_iff.mp e
  cases f with
  | next => cases e
  | ret o' =>
    cases tp with
    | nil => cases e; exact ⟨ρ, ob, e1⟩
    | cons => cases e
theorem call_go {a : Addr} {f : FD} {args : List V} {o : O} {n : Nat} {tp : List Tk} {P : Prop} (B : SL G d f.fi) (hf : G.fd.lookup a = some f) (hB : B.xs = f.st) (hn : args.length = f.ps.length)
    (e : res (B.ex ⟨loc0 args n, tp, []⟩) = some o) (ob : All (obs (B.ex ⟨loc0 args n, tp, []⟩)) = P) (p : P) : CallOK G (d + 1) a args o := by
  obtain ⟨ρ, o', h⟩ := res_of e
  subst ob
  have q : All o' := by rw [h] at p; exact p
  exact call_of hf hn (hB ▸ (B.eo _ _ _ h q).2) (.inl rfl)
section
variable {c : T G d fi} {b : SL G d fi} {ρ ρ' ρ'' : Loc} {fl : Fl} {tp : List Tk} {P : Prop}
theorem whil_go (f : Bool) (e : out (turn c b f ⟨ρ, tp, []⟩) = some (some .next, ρ', [])) (o : All (obs (turn c b f ⟨ρ, tp, []⟩)) = P) (p : P) (h : WhilOK G d fi c.x b.xs ρ' fl ρ'') : WhilOK G d fi c.x b.xs ρ fl ρ'' :=
  (turn_ok c b f).run e o p fl ρ'' h
theorem whil_end (f : Bool) (e : out (turn c b f ⟨ρ, tp, []⟩) = some (none, ρ', [])) (o : All (obs (turn c b f ⟨ρ, tp, []⟩)) = P) (p : P) : WhilOK G d fi c.x b.xs ρ .next ρ' :=
  (turn_ok c b f).run e o p .next ρ' ⟨rfl, rfl⟩
theorem for_go {x : Str} {p' : Pos} {i : Nat} {v : V} {l : List V} (hx : fi.isOwn x i = true) (e : out (b.ex ⟨ρ.set i (some (.val v)), tp, []⟩) = some (.next, ρ', [])) (o : All (obs (b.ex ⟨ρ.set i (some (.val v)), tp, []⟩)) = P) (p : P)
    (h : ForOK G d fi (.Name x p') b.xs l ρ' fl ρ'') : ForOK G d fi (.Name x p') b.xs (v :: l) ρ fl ρ'' :=
  (for_ok hx b v l).run (ρ := ρ) e o p fl ρ'' h
theorem comp_nil {elt : Expr} {i : Nat} : CompL G d fi elt i ρ [] [] := rfl
theorem comp_go {elt : T G d fi} {i : Nat} {v : V} {l vs : List V} {o : O} (e : out (elt.ev ⟨ρ.set i (some (.val v)), tp, []⟩) = some (o, ρ.set i (some (.val v)), [])) (ob : All (obs (elt.ev ⟨ρ.set i (some (.val v)), tp, []⟩)) = P) (p : P)
    (h : CompL G d fi elt.x i ρ l vs) : CompL G d fi elt.x i ρ (v :: l) (o.frz :: vs) := ⟨_, _, rfl, (elt.eo.run e ob p).v, h⟩
def WhP (c : T G d fi) (b : SL G d fi) (ρ : Loc) (Φ : Fl → Loc → Prop) : Prop := ∃ fl ρ', WhilOK G d fi c.x b.xs ρ fl ρ' ∧ Φ fl ρ'
theorem whp_go {Φ : Fl → Loc → Prop} (f : Bool) (e : out (turn c b f ⟨ρ, tp, []⟩) = some (some .next, ρ', [])) (o : All (obs (turn c b f ⟨ρ, tp, []⟩)) = P) (p : P) (h : WhP c b ρ' Φ) : WhP c b ρ Φ := by
  obtain ⟨fl, ρ2, h1, h2⟩ := h
  exact ⟨fl, ρ2, whil_go f e o p h1, h2⟩
theorem whp_end {Φ : Fl → Loc → Prop} (f : Bool) (e : out (turn c b f ⟨ρ, tp, []⟩) = some (none, ρ', [])) (o : All (obs (turn c b f ⟨ρ, tp, []⟩)) = P) (p : P) (h : Φ .next ρ') : WhP c b ρ Φ := ⟨_, _, whil_end f e o p, h⟩
end
end
end Mine
end

section
open PySem
set_option autoImplicit false
set_option maxRecDepth 100000
namespace Mine.L03
noncomputable def z_num : List Nat := [110, 117, 109]
theorem z_num_e : ("num" : Str) = ⟨z_num.toArray⟩ := by kernel_rfl
theorem z_num_k : (PyData.strOk ⟨z_num.toArray⟩ && Nat.ble z_num.length 1000) = true := by kernel_rfl
noncomputable def z_name : List Nat := [110, 97, 109, 101]
theorem z_name_e : ("name" : Str) = ⟨z_name.toArray⟩ := by kernel_rfl
theorem z_name_k : (PyData.strOk ⟨z_name.toArray⟩ && Nat.ble z_name.length 1000) = true := by kernel_rfl
noncomputable def z_fun : List Nat := [102, 117, 110]
theorem z_fun_e : ("fun" : Str) = ⟨z_fun.toArray⟩ := by kernel_rfl
theorem z_fun_k : (PyData.strOk ⟨z_fun.toArray⟩ && Nat.ble z_fun.length 1000) = true := by kernel_rfl
noncomputable def z_let : List Nat := [108, 101, 116]
theorem z_let_e : ("let" : Str) = ⟨z_let.toArray⟩ := by kernel_rfl
theorem z_let_k : (PyData.strOk ⟨z_let.toArray⟩ && Nat.ble z_let.length 1000) = true := by kernel_rfl
noncomputable def z_abcdefghijklmnopqrstuvwxyz : List Nat := [97, 98, 99, 100, 101, 102, 103, 104, 105, 106, 107, 108, 109, 110, 111, 112, 113, 114, 115, 116, 117, 118, 119, 120, 121, 122]
theorem z_abcdefghijklmnopqrstuvwxyz_e : ("abcdefghijklmnopqrstuvwxyz" : Str) = ⟨z_abcdefghijklmnopqrstuvwxyz.toArray⟩ := by kernel_rfl
theorem z_abcdefghijklmnopqrstuvwxyz_k : (PyData.strOk ⟨z_abcdefghijklmnopqrstuvwxyz.toArray⟩ && Nat.ble z_abcdefghijklmnopqrstuvwxyz.length 1000) = true := by kernel_rfl
noncomputable def z_ : List Nat := []
theorem z__e : ("" : Str) = ⟨z_.toArray⟩ := by kernel_rfl
theorem z__k : (PyData.strOk ⟨z_.toArray⟩ && Nat.ble z_.length 1000) = true := by kernel_rfl
noncomputable def z_call : List Nat := [99, 97, 108, 108]
theorem z_call_e : ("call" : Str) = ⟨z_call.toArray⟩ := by kernel_rfl
theorem z_call_k : (PyData.strOk ⟨z_call.toArray⟩ && Nat.ble z_call.length 1000) = true := by kernel_rfl
noncomputable def z_plus : List Nat := [112, 108, 117, 115]
theorem z_plus_e : ("plus" : Str) = ⟨z_plus.toArray⟩ := by kernel_rfl
theorem z_plus_k : (PyData.strOk ⟨z_plus.toArray⟩ && Nat.ble z_plus.length 1000) = true := by kernel_rfl
noncomputable def z_less : List Nat := [108, 101, 115, 115]
theorem z_less_e : ("less" : Str) = ⟨z_less.toArray⟩ := by kernel_rfl
theorem z_less_k : (PyData.strOk ⟨z_less.toArray⟩ && Nat.ble z_less.length 1000) = true := by kernel_rfl
noncomputable def z_if : List Nat := [105, 102]
theorem z_if_e : ("if" : Str) = ⟨z_if.toArray⟩ := by kernel_rfl
theorem z_if_k : (PyData.strOk ⟨z_if.toArray⟩ && Nat.ble z_if.length 1000) = true := by kernel_rfl
noncomputable def z_other : List Nat := [111, 116, 104, 101, 114]
theorem z_other_e : ("other" : Str) = ⟨z_other.toArray⟩ := by kernel_rfl
theorem z_other_k : (PyData.strOk ⟨z_other.toArray⟩ && Nat.ble z_other.length 1000) = true := by kernel_rfl
noncomputable def fi_open_places : FI := ⟨namesAt PySem.Challenge.pw_uf010023_03 1, [("node", 0), ("name", 1)]⟩
noncomputable def fd_open_places : FD := ⟨["node", "name"], fi_open_places, bodyAt PySem.Challenge.pw_uf010023_03 1⟩
noncomputable def fi_put : FI := ⟨namesAt PySem.Challenge.pw_uf010023_03 2, [("tree", 0), ("name", 1), ("value", 2), ("tasks", 3), ("made", 4), ("node", 5), ("ready", 6), ("places", 7), ("row", 8), ("place", 9)]⟩
noncomputable def fd_put : FD := ⟨["tree", "name", "value"], fi_put, bodyAt PySem.Challenge.pw_uf010023_03 2⟩
noncomputable def fi__law_cell_at : FI := ⟨namesAt PySem.Challenge.pw_uf010023_03 4, [("_law_script", 0), ("_law_k", 1)]⟩
noncomputable def fd__law_cell_at : FD := ⟨["_law_script", "_law_k"], fi__law_cell_at, bodyAt PySem.Challenge.pw_uf010023_03 4⟩
noncomputable def fi__law_kin_by : FI := ⟨namesAt PySem.Challenge.pw_uf010023_03 5, [("_law_cell", 0), ("_law_many", 1), ("_law_letters", 2), ("_law_word", 3), ("_law_turned", 4)]⟩
noncomputable def fd__law_kin_by : FD := ⟨["_law_cell", "_law_many"], fi__law_kin_by, bodyAt PySem.Challenge.pw_uf010023_03 5⟩
noncomputable def fi__law_name_by : FI := ⟨namesAt PySem.Challenge.pw_uf010023_03 6, [("_law_cell", 0), ("_law_letters", 1), ("_law_round_it", 2), ("_law_turn", 3), ("_law_at", 4), ("_law_word", 5)]⟩
noncomputable def fd__law_name_by : FD := ⟨["_law_cell"], fi__law_name_by, bodyAt PySem.Challenge.pw_uf010023_03 6⟩
noncomputable def fi__law_joined : FI := ⟨namesAt PySem.Challenge.pw_uf010023_03 7, [("_law_kind", 0), ("_law_name", 1), ("_law_one", 2), ("_law_other", 3)]⟩
noncomputable def fd__law_joined : FD := ⟨["_law_kind", "_law_name", "_law_one", "_law_other"], fi__law_joined, bodyAt PySem.Challenge.pw_uf010023_03 7⟩
noncomputable def fi__law_tree_by : FI := ⟨namesAt PySem.Challenge.pw_uf010023_03 8, [("_law_cells", 0), ("_law_names", 1), ("_law_stack", 2), ("_law_cell", 3), ("_law_kind", 4), ("_law_more", 5), ("_law_name", 6), ("_law_other", 7)]⟩
noncomputable def fd__law_tree_by : FD := ⟨["_law_cells", "_law_names"], fi__law_tree_by, bodyAt PySem.Challenge.pw_uf010023_03 8⟩
noncomputable def fi__law_leaf : FI := ⟨namesAt PySem.Challenge.pw_uf010023_03 9, [("_law_one", 0), ("_law_other", 1)]⟩
noncomputable def fd__law_leaf : FD := ⟨["_law_one", "_law_other"], fi__law_leaf, bodyAt PySem.Challenge.pw_uf010023_03 9⟩
noncomputable def fi__law_put_right : FI := ⟨namesAt PySem.Challenge.pw_uf010023_03 10, [("_law_tree", 0), ("_law_found", 1), ("_law_name", 2), ("_law_value", 3), ("_law_todo", 4), ("_law_row", 5), ("_law_one", 6), ("_law_other", 7), ("_law_k", 8), ("_law_inner", 9)]⟩
noncomputable def fd__law_put_right : FD := ⟨["_law_tree", "_law_found", "_law_name", "_law_value"], fi__law_put_right, bodyAt PySem.Challenge.pw_uf010023_03 10⟩
noncomputable def fi_law : FI := ⟨namesAt PySem.Challenge.pw_uf010023_03 11, [("_law_script", 0), ("_law_first", 1), ("_law_second", 2), ("_law_k", 3), ("_law_names", 4), ("_law_tree", 5), ("_law_name", 6), ("_law_other", 7), ("_law_number", 8), ("_law_some", 9), ("_law_value", 10), ("_law_found", 11)]⟩
noncomputable def fd_law : FD := ⟨["_law_script"], fi_law, bodyAt PySem.Challenge.pw_uf010023_03 11⟩
noncomputable def G : Gl := ⟨[("open_places", 21), ("put", 28), ("_law_cell_at", 35), ("_law_kin_by", 40), ("_law_name_by", 47), ("_law_joined", 54), ("_law_tree_by", 61), ("_law_leaf", 68), ("_law_put_right", 75), ("law", 80)], [(21, fd_open_places), (28, fd_put), (35, fd__law_cell_at), (40, fd__law_kin_by), (47, fd__law_name_by), (54, fd__law_joined), (61, fd__law_tree_by), (68, fd__law_leaf), (75, fd__law_put_right), (80, fd_law)], ["len", "isinstance", "list", "tuple", "range", "reversed", "str", "int", "bool"], [.tuple, .str, .int, .bool, .list]⟩
noncomputable def b_open_places (d : Nat) : SL G d fi_open_places :=
(lCons (sIte false (eBop (bCons false (eEq (eIdxV false "node" 0 ⟨3,7,3,11⟩ (eInt 0 0 ⟨3,12,3,13⟩) ⟨3,7,3,14⟩ (by kernel_rfl)) (eStr "num" z_num 0 ⟨3,18,3,23⟩ z_num_e z_num_k) ⟨3,7,3,23⟩) (bLast .Or (eEq (eIdxV false "node" 0 ⟨3,27,3,31⟩ (eInt 0 0 ⟨3,32,3,33⟩) ⟨3,27,3,34⟩ (by kernel_rfl)) (eStr "name" z_name 0 ⟨3,38,3,44⟩ z_name_e z_name_k) ⟨3,27,3,44⟩))) ⟨3,7,3,44⟩)
(lCons (sRet (eLst rNil ⟨4,15,4,17⟩ rfl) ⟨4,8,4,17⟩) lNil)
lNil ⟨3,4,4,17⟩) (lCons (sIte false (eEq (eIdxV false "node" 0 ⟨5,7,5,11⟩ (eInt 0 0 ⟨5,12,5,13⟩) ⟨5,7,5,14⟩ (by kernel_rfl)) (eStr "fun" z_fun 0 ⟨5,18,5,23⟩ z_fun_e z_fun_k) ⟨5,7,5,23⟩)
(lCons (sIte true (eEq (eIdxV false "node" 0 ⟨6,11,6,15⟩ (eInt 1 0 ⟨6,16,6,17⟩) ⟨6,11,6,18⟩ (by kernel_rfl)) (eVar "name" 1 ⟨6,22,6,26⟩ (by kernel_rfl)) ⟨6,11,6,26⟩)
(lCons (sRet (eLst rNil ⟨7,19,7,21⟩ rfl) ⟨7,12,7,21⟩) lNil)
lNil ⟨6,8,7,21⟩) (lCons (sRet (eLst (rCons (eInt 2 0 ⟨8,16,8,17⟩) rNil) ⟨8,15,8,18⟩ rfl) ⟨8,8,8,18⟩) lNil))
lNil ⟨5,4,8,18⟩) (lCons (sIte false (eEq (eIdxV false "node" 0 ⟨9,7,9,11⟩ (eInt 0 0 ⟨9,12,9,13⟩) ⟨9,7,9,14⟩ (by kernel_rfl)) (eStr "let" z_let 0 ⟨9,18,9,23⟩ z_let_e z_let_k) ⟨9,7,9,23⟩)
(lCons (sIte true (eEq (eIdxV false "node" 0 ⟨10,11,10,15⟩ (eInt 1 0 ⟨10,16,10,17⟩) ⟨10,11,10,18⟩ (by kernel_rfl)) (eVar "name" 1 ⟨10,22,10,26⟩ (by kernel_rfl)) ⟨10,11,10,26⟩)
(lCons (sRet (eLst (rCons (eInt 2 0 ⟨11,20,11,21⟩) rNil) ⟨11,19,11,22⟩ rfl) ⟨11,12,11,22⟩) lNil)
lNil ⟨10,8,11,22⟩) (lCons (sRet (eLst (rCons (eInt 2 0 ⟨12,16,12,17⟩) (rCons (eInt 3 0 ⟨12,19,12,20⟩) rNil)) ⟨12,15,12,21⟩ rfl) ⟨12,8,12,21⟩) lNil))
lNil ⟨9,4,12,21⟩) (lCons (sRet (eListR (rCons (eInt 1 0 ⟨13,22,13,23⟩) (rCons (eLen (eVar "node" 0 ⟨13,29,13,33⟩ (by kernel_rfl)) ⟨13,25,13,28⟩ ⟨13,25,13,34⟩ (by kernel_rfl)) rNil)) ⟨13,11,13,15⟩ ⟨13,16,13,21⟩ ⟨13,16,13,35⟩ ⟨13,11,13,36⟩ (by kernel_rfl)) ⟨13,4,13,36⟩) lNil))))
theorem b_open_places_x (d : Nat) : (b_open_places d).xs = fd_open_places.st := by kernel_rfl
noncomputable def l_put_22 (d : Nat) : SL G d fi_put :=
(lCons (sSet "row" 8 (eVar "place" 9 ⟨23,20,23,25⟩ (by kernel_rfl)) (ePop "made" 4 ⟨23,29,23,33⟩ ⟨23,29,23,37⟩ ⟨23,29,23,39⟩ (by kernel_rfl)) ⟨23,16,23,19⟩ ⟨23,16,23,26⟩ ⟨23,16,23,39⟩ (by kernel_rfl)) lNil)
noncomputable def l_put_31 (d : Nat) : SL G d fi_put :=
(lCons (sApp "tasks" 3 (eTup (rCons (eIdxV false "node" 5 ⟨32,30,32,34⟩ (eVar "place" 9 ⟨32,35,32,40⟩ (by kernel_rfl)) ⟨32,30,32,41⟩ (by kernel_rfl)) (rCons (eBool false 0 ⟨32,43,32,48⟩) rNil)) 0 ⟨32,29,32,49⟩ rfl) ⟨32,16,32,21⟩ ⟨32,16,32,28⟩ ⟨32,16,32,50⟩ ⟨32,16,32,50⟩ (by kernel_rfl)) lNil)
noncomputable def c_put_17 (d : Nat) : T G d fi_put := (eNil true (eVar "tasks" 3 ⟨17,10,17,15⟩ (by kernel_rfl)) ⟨17,19,17,21⟩ ⟨17,10,17,21⟩)
noncomputable def l_put_17 (d : Nat) : SL G d fi_put :=
(lCons (sUnp [("node", 5, ⟨18,8,18,12⟩), ("ready", 6, ⟨18,14,18,19⟩)] (ePop "tasks" 3 ⟨18,22,18,27⟩ ⟨18,22,18,31⟩ ⟨18,22,18,33⟩ (by kernel_rfl)) 0 ⟨18,8,18,19⟩ ⟨18,8,18,33⟩ (by kernel_rfl) fun _ => rfl) (lCons (sAsg "places" 7 (eCall "open_places" 21 (rCons (eVar "node" 5 ⟨19,29,19,33⟩ (by kernel_rfl)) (rCons (eVar "name" 1 ⟨19,35,19,39⟩ (by kernel_rfl)) rNil)) ⟨19,17,19,28⟩ ⟨19,17,19,40⟩ (by kernel_rfl)) ⟨19,8,19,14⟩ ⟨19,8,19,40⟩ (by kernel_rfl)) (lCons (sIte false (eVar "ready" 6 ⟨20,11,20,16⟩ (by kernel_rfl))
(lCons (sAsg "row" 8 (eListT (eVar "node" 5 ⟨21,23,21,27⟩ (by kernel_rfl)) ⟨21,18,21,22⟩ ⟨21,18,21,28⟩ (by kernel_rfl)) ⟨21,12,21,15⟩ ⟨21,12,21,28⟩ (by kernel_rfl)) (lCons (sFor "place" (iRev (eVar "places" 7 ⟨22,34,22,40⟩ (by kernel_rfl)) ⟨22,25,22,33⟩ ⟨22,25,22,41⟩ (by kernel_rfl)) (l_put_22 d) ⟨22,16,22,21⟩ ⟨22,12,23,39⟩) (lCons (sApp "made" 4 (eTupL (eVar "row" 8 ⟨24,30,24,33⟩ (by kernel_rfl)) ⟨24,24,24,29⟩ ⟨24,24,24,34⟩ (by kernel_rfl)) ⟨24,12,24,16⟩ ⟨24,12,24,23⟩ ⟨24,12,24,35⟩ ⟨24,12,24,35⟩ (by kernel_rfl)) lNil)))
(lCons (sIte true (eBop (bCons false (eEq (eIdxV false "node" 5 ⟨25,13,25,17⟩ (eInt 0 0 ⟨25,18,25,19⟩) ⟨25,13,25,20⟩ (by kernel_rfl)) (eStr "name" z_name 0 ⟨25,24,25,30⟩ z_name_e z_name_k) ⟨25,13,25,30⟩) (bLast .And (eEq (eIdxV false "node" 5 ⟨25,35,25,39⟩ (eInt 1 0 ⟨25,40,25,41⟩) ⟨25,35,25,42⟩ (by kernel_rfl)) (eVar "name" 1 ⟨25,46,25,50⟩ (by kernel_rfl)) ⟨25,35,25,50⟩))) ⟨25,13,25,50⟩)
(lCons (sApp "made" 4 (eVar "value" 2 ⟨26,24,26,29⟩ (by kernel_rfl)) ⟨26,12,26,16⟩ ⟨26,12,26,23⟩ ⟨26,12,26,30⟩ ⟨26,12,26,30⟩ (by kernel_rfl)) lNil)
(lCons (sIte false (eNil false (eVar "places" 7 ⟨27,13,27,19⟩ (by kernel_rfl)) ⟨27,23,27,25⟩ ⟨27,13,27,25⟩)
(lCons (sApp "made" 4 (eVar "node" 5 ⟨28,24,28,28⟩ (by kernel_rfl)) ⟨28,12,28,16⟩ ⟨28,12,28,23⟩ ⟨28,12,28,29⟩ ⟨28,12,28,29⟩ (by kernel_rfl)) lNil)
(lCons (sApp "tasks" 3 (eTup (rCons (eVar "node" 5 ⟨30,26,30,30⟩ (by kernel_rfl)) (rCons (eBool true 0 ⟨30,32,30,36⟩) rNil)) 0 ⟨30,25,30,37⟩ rfl) ⟨30,12,30,17⟩ ⟨30,12,30,24⟩ ⟨30,12,30,38⟩ ⟨30,12,30,38⟩ (by kernel_rfl)) (lCons (sFor "place" (iRev (eVar "places" 7 ⟨31,34,31,40⟩ (by kernel_rfl)) ⟨31,25,31,33⟩ ⟨31,25,31,41⟩ (by kernel_rfl)) (l_put_31 d) ⟨31,16,31,21⟩ ⟨31,12,32,50⟩) lNil)) ⟨27,8,32,50⟩) lNil) ⟨25,8,32,50⟩) lNil) ⟨20,8,32,50⟩) lNil)))
noncomputable def b_put (d : Nat) : SL G d fi_put :=
(lCons (sAsg "tasks" 3 (eLst (rCons (eTup (rCons (eVar "tree" 0 ⟨15,14,15,18⟩ (by kernel_rfl)) (rCons (eBool false 0 ⟨15,20,15,25⟩) rNil)) 0 ⟨15,13,15,26⟩ rfl) rNil) ⟨15,12,15,27⟩ rfl) ⟨15,4,15,9⟩ ⟨15,4,15,27⟩ (by kernel_rfl)) (lCons (sAsg "made" 4 (eLst rNil ⟨16,11,16,13⟩ rfl) ⟨16,4,16,8⟩ ⟨16,4,16,13⟩ (by kernel_rfl)) (lCons (sWhil (c_put_17 d) (l_put_17 d) ⟨17,4,32,50⟩) (lCons (sRet (eIdxV false "made" 4 ⟨33,11,33,15⟩ (eInt 0 0 ⟨33,16,33,17⟩) ⟨33,11,33,18⟩ (by kernel_rfl)) ⟨33,4,33,18⟩) lNil))))
theorem b_put_x (d : Nat) : (b_put d).xs = fd_put.st := by kernel_rfl
noncomputable def b__law_cell_at (d : Nat) : SL G d fi__law_cell_at :=
(lCons (sIte true (eLt (eVar "_law_k" 1 ⟨36,7,36,13⟩ (by kernel_rfl)) (eLen (eVar "_law_script" 0 ⟨36,20,36,31⟩ (by kernel_rfl)) ⟨36,16,36,19⟩ ⟨36,16,36,32⟩ (by kernel_rfl)) ⟨36,7,36,32⟩)
(lCons (sRet (eIdxV true "_law_script" 0 ⟨37,15,37,26⟩ (eVar "_law_k" 1 ⟨37,27,37,33⟩ (by kernel_rfl)) ⟨37,15,37,34⟩ (by kernel_rfl)) ⟨37,8,37,34⟩) lNil)
lNil ⟨36,4,37,34⟩) (lCons (sRet (eInt 0 0 ⟨38,11,38,12⟩) ⟨38,4,38,12⟩) lNil))
theorem b__law_cell_at_x (d : Nat) : (b__law_cell_at d).xs = fd__law_cell_at.st := by kernel_rfl
noncomputable def s__law_kin_by_41_24 : Scope := ⟨.function, [(".0", .local), ("_law_k", .local), ("_law_cell", .free), ("_law_letters", .free)], false, false, []⟩
noncomputable def e__law_kin_by_41_24 (d : Nat) : T G d (fi__law_kin_by.inner s__law_kin_by_41_24 "_law_k" 5) := (eIdxV true "_law_letters" 2 ⟨41,25,41,37⟩ (eMod (eAdd (eVar "_law_cell" 0 ⟨41,39,41,48⟩ (by kernel_rfl)) (eMul (eInt 3 0 ⟨41,51,41,52⟩) (eVar "_law_k" 5 ⟨41,55,41,61⟩ (by kernel_rfl)) ⟨41,51,41,61⟩) ⟨41,39,41,61⟩) (eInt 26 0 ⟨41,65,41,67⟩) ⟨41,38,41,67⟩) ⟨41,25,41,68⟩ (by kernel_rfl))
noncomputable def s__law_kin_by_43_15 : Scope := ⟨.function, [(".0", .local), ("_law_k", .local), ("_law_word", .free)], false, false, []⟩
noncomputable def e__law_kin_by_43_15 (d : Nat) : T G d (fi__law_kin_by.inner s__law_kin_by_43_15 "_law_k" 5) := (eSlc (eVar "_law_word" 3 ⟨43,16,43,25⟩ (by kernel_rfl)) dNone (dSome (eAdd (eVar "_law_k" 5 ⟨43,27,43,33⟩ (by kernel_rfl)) (eInt 1 0 ⟨43,36,43,37⟩) ⟨43,27,43,37⟩)) ⟨43,26,43,37⟩ ⟨43,16,43,38⟩)
noncomputable def s__law_kin_by_44_18 : Scope := ⟨.function, [(".0", .local), ("_law_k", .local), ("_law_word", .free)], false, false, []⟩
noncomputable def e__law_kin_by_44_18 (d : Nat) : T G d (fi__law_kin_by.inner s__law_kin_by_44_18 "_law_k" 5) := (eCat (eSlc (eVar "_law_word" 3 ⟨44,19,44,28⟩ (by kernel_rfl)) (dSome (eVar "_law_k" 5 ⟨44,29,44,35⟩ (by kernel_rfl))) dNone ⟨44,29,44,36⟩ ⟨44,19,44,37⟩) (eSlc (eVar "_law_word" 3 ⟨44,40,44,49⟩ (by kernel_rfl)) dNone (dSome (eVar "_law_k" 5 ⟨44,51,44,57⟩ (by kernel_rfl))) ⟨44,50,44,57⟩ ⟨44,40,44,58⟩) ⟨44,19,44,58⟩)
noncomputable def s__law_kin_by_45_26 : Scope := ⟨.function, [(".0", .local), ("_law_one", .local)], false, false, []⟩
noncomputable def e__law_kin_by_45_26 (d : Nat) : T G d (fi__law_kin_by.inner s__law_kin_by_45_26 "_law_one" 5) := (eRev (eVar "_law_one" 5 ⟨45,27,45,35⟩ (by kernel_rfl)) 0 ⟨45,39,45,40⟩ ⟨45,38,45,40⟩ ⟨45,36,45,40⟩ ⟨45,27,45,41⟩)
noncomputable def b__law_kin_by (d : Nat) : SL G d fi__law_kin_by :=
(lCons (sAsg "_law_letters" 2 (eStr "abcdefghijklmnopqrstuvwxyz" z_abcdefghijklmnopqrstuvwxyz 0 ⟨40,19,40,47⟩ z_abcdefghijklmnopqrstuvwxyz_e z_abcdefghijklmnopqrstuvwxyz_k) ⟨40,4,40,16⟩ ⟨40,4,40,47⟩ (by kernel_rfl)) (lCons (sAsg "_law_word" 3 (eJoin "" z_ 0 ⟨41,16,41,18⟩ (eComp "_law_k" 5 ⟨41,73,41,79⟩ (iRange (rCons (eInt 8 0 ⟨41,89,41,90⟩) rNil) ⟨41,83,41,88⟩ ⟨41,83,41,91⟩ (by kernel_rfl)) s__law_kin_by_41_24 (e__law_kin_by_41_24 d) ⟨41,24,41,92⟩ (by kernel_rfl)) ⟨41,16,41,23⟩ ⟨41,16,41,93⟩ z__e (by kernel_rfl)) ⟨41,4,41,13⟩ ⟨41,4,41,93⟩ (by kernel_rfl)) (lCons (sIte false (eBop (bCons true (eEq (eMod (eDiv (eVar "_law_cell" 0 ⟨42,7,42,16⟩ (by kernel_rfl)) (eInt 26 0 ⟨42,20,42,22⟩) ⟨42,7,42,22⟩) (eInt 2 0 ⟨42,25,42,26⟩) ⟨42,7,42,26⟩) (eInt 0 0 ⟨42,30,42,31⟩) ⟨42,7,42,31⟩) (bLast .And (eLt (eVar "_law_many" 1 ⟨42,36,42,45⟩ (by kernel_rfl)) (eInt 9 0 ⟨42,48,42,49⟩) ⟨42,36,42,49⟩))) ⟨42,7,42,49⟩)
(lCons (sRet (eComp "_law_k" 5 ⟨43,43,43,49⟩ (iRange (rCons (eVar "_law_many" 1 ⟨43,59,43,68⟩ (by kernel_rfl)) rNil) ⟨43,53,43,58⟩ ⟨43,53,43,69⟩ (by kernel_rfl)) s__law_kin_by_43_15 (e__law_kin_by_43_15 d) ⟨43,15,43,70⟩ (by kernel_rfl)) ⟨43,8,43,70⟩) lNil)
lNil ⟨42,4,43,70⟩) (lCons (sAsgC "_law_turned" 4 ⟨44,4,44,15⟩ ⟨44,4,44,82⟩ "_law_k" 5 ⟨44,63,44,69⟩ (iRange (rCons (eInt 8 0 ⟨44,79,44,80⟩) rNil) ⟨44,73,44,78⟩ ⟨44,73,44,81⟩ (by kernel_rfl)) s__law_kin_by_44_18 (e__law_kin_by_44_18 d) ⟨44,18,44,82⟩ (by kernel_rfl)) (lCons (sRet (eSlc (eAddL (eVar "_law_turned" 4 ⟨45,12,45,23⟩ (by kernel_rfl)) (eComp "_law_one" 5 ⟨45,46,45,54⟩ (iList (eVar "_law_turned" 4 ⟨45,58,45,69⟩ (by kernel_rfl))) s__law_kin_by_45_26 (e__law_kin_by_45_26 d) ⟨45,26,45,70⟩ (by kernel_rfl)) ⟨45,12,45,70⟩) dNone (dSome (eVar "_law_many" 1 ⟨45,73,45,82⟩ (by kernel_rfl))) ⟨45,72,45,82⟩ ⟨45,11,45,83⟩) ⟨45,4,45,83⟩) lNil)))))
theorem b__law_kin_by_x (d : Nat) : (b__law_kin_by d).xs = fd__law_kin_by.st := by kernel_rfl
noncomputable def l__law_name_by_49 (d : Nat) : SL G d fi__law_name_by :=
(lCons (sAsg "_law_round_it" 2 (eCat (eVar "_law_round_it" 2 ⟨50,24,50,37⟩ (by kernel_rfl)) (eIdxV true "_law_letters" 1 ⟨50,40,50,52⟩ (eMod (eAdd (eDiv (eVar "_law_cell" 0 ⟨50,54,50,63⟩ (by kernel_rfl)) (eInt 208 0 ⟨50,67,50,70⟩) ⟨50,54,50,70⟩) (eMul (eInt 7 0 ⟨50,73,50,74⟩) (eVar "_law_turn" 3 ⟨50,77,50,86⟩ (by kernel_rfl)) ⟨50,73,50,86⟩) ⟨50,54,50,86⟩) (eInt 26 0 ⟨50,90,50,92⟩) ⟨50,53,50,92⟩) ⟨50,40,50,93⟩ (by kernel_rfl)) ⟨50,24,50,93⟩) ⟨50,8,50,21⟩ ⟨50,8,50,93⟩ (by kernel_rfl)) lNil)
noncomputable def b__law_name_by (d : Nat) : SL G d fi__law_name_by :=
(lCons (sAsg "_law_letters" 1 (eStr "abcdefghijklmnopqrstuvwxyz" z_abcdefghijklmnopqrstuvwxyz 0 ⟨47,19,47,47⟩ z_abcdefghijklmnopqrstuvwxyz_e z_abcdefghijklmnopqrstuvwxyz_k) ⟨47,4,47,16⟩ ⟨47,4,47,47⟩ (by kernel_rfl)) (lCons (sAsg "_law_round_it" 2 (eStr "" z_ 0 ⟨48,20,48,22⟩ z__e z__k) ⟨48,4,48,17⟩ ⟨48,4,48,22⟩ (by kernel_rfl)) (lCons (sFor "_law_turn" (iRange (rCons (eMod (eDiv (eVar "_law_cell" 0 ⟨49,27,49,36⟩ (by kernel_rfl)) (eInt 26 0 ⟨49,40,49,42⟩) ⟨49,27,49,42⟩) (eInt 8 0 ⟨49,45,49,46⟩) ⟨49,27,49,46⟩) rNil) ⟨49,21,49,26⟩ ⟨49,21,49,47⟩ (by kernel_rfl)) (l__law_name_by_49 d) ⟨49,8,49,17⟩ ⟨49,4,50,93⟩) (lCons (sAsg "_law_at" 4 (eMod (eDiv (eVar "_law_cell" 0 ⟨51,14,51,23⟩ (by kernel_rfl)) (eInt 208 0 ⟨51,27,51,30⟩) ⟨51,14,51,30⟩) (eAdd (eLen (eVar "_law_round_it" 2 ⟨51,38,51,51⟩ (by kernel_rfl)) ⟨51,34,51,37⟩ ⟨51,34,51,52⟩ (by kernel_rfl)) (eInt 1 0 ⟨51,55,51,56⟩) ⟨51,34,51,56⟩) ⟨51,14,51,57⟩) ⟨51,4,51,11⟩ ⟨51,4,51,57⟩ (by kernel_rfl)) (lCons (sAsg "_law_word" 5 (eCat (eCat (eSlc (eVar "_law_round_it" 2 ⟨52,16,52,29⟩ (by kernel_rfl)) dNone (dSome (eVar "_law_at" 4 ⟨52,31,52,38⟩ (by kernel_rfl))) ⟨52,30,52,38⟩ ⟨52,16,52,39⟩) (eIdxV true "_law_letters" 1 ⟨52,42,52,54⟩ (eMod (eVar "_law_cell" 0 ⟨52,55,52,64⟩ (by kernel_rfl)) (eInt 26 0 ⟨52,67,52,69⟩) ⟨52,55,52,69⟩) ⟨52,42,52,70⟩ (by kernel_rfl)) ⟨52,16,52,70⟩) (eSlc (eVar "_law_round_it" 2 ⟨52,73,52,86⟩ (by kernel_rfl)) (dSome (eVar "_law_at" 4 ⟨52,87,52,94⟩ (by kernel_rfl))) dNone ⟨52,87,52,95⟩ ⟨52,73,52,96⟩) ⟨52,16,52,96⟩) ⟨52,4,52,13⟩ ⟨52,4,52,96⟩ (by kernel_rfl)) (lCons (sIte true (eIn (eVar "_law_word" 5 ⟨53,7,53,16⟩ (by kernel_rfl)) (eTup (rCons (eStr "num" z_num 0 ⟨53,21,53,26⟩ z_num_e z_num_k) (rCons (eStr "name" z_name 0 ⟨53,28,53,34⟩ z_name_e z_name_k) (rCons (eStr "fun" z_fun 0 ⟨53,36,53,41⟩ z_fun_e z_fun_k) (rCons (eStr "call" z_call 0 ⟨53,43,53,49⟩ z_call_e z_call_k) (rCons (eStr "plus" z_plus 0 ⟨53,51,53,57⟩ z_plus_e z_plus_k) (rCons (eStr "less" z_less 0 ⟨53,59,53,65⟩ z_less_e z_less_k) (rCons (eStr "if" z_if 0 ⟨53,67,53,71⟩ z_if_e z_if_k) (rCons (eStr "let" z_let 0 ⟨53,73,53,78⟩ z_let_e z_let_k) rNil)))))))) 0 ⟨53,20,53,79⟩ rfl) ⟨53,7,53,79⟩)
(lCons (sRet (eIdxV true "_law_letters" 1 ⟨54,15,54,27⟩ (eMod (eVar "_law_cell" 0 ⟨54,28,54,37⟩ (by kernel_rfl)) (eInt 26 0 ⟨54,40,54,42⟩) ⟨54,28,54,42⟩) ⟨54,15,54,43⟩ (by kernel_rfl)) ⟨54,8,54,43⟩) lNil)
lNil ⟨53,4,54,43⟩) (lCons (sRetV "_law_word" 5 ⟨55,11,55,20⟩ ⟨55,4,55,20⟩ (by kernel_rfl)) lNil)))))))
theorem b__law_name_by_x (d : Nat) : (b__law_name_by d).xs = fd__law_name_by.st := by kernel_rfl
noncomputable def b__law_joined (d : Nat) : SL G d fi__law_joined :=
(lCons (sIte false (eEq (eVar "_law_kind" 0 ⟨57,7,57,16⟩ (by kernel_rfl)) (eInt 6 0 ⟨57,20,57,21⟩) ⟨57,7,57,21⟩)
(lCons (sRet (eTup (rCons (eStr "call" z_call 0 ⟨58,16,58,22⟩ z_call_e z_call_k) (rCons (eTup (rCons (eStr "fun" z_fun 0 ⟨58,25,58,30⟩ z_fun_e z_fun_k) (rCons (eVar "_law_name" 1 ⟨58,32,58,41⟩ (by kernel_rfl)) (rCons (eVar "_law_one" 2 ⟨58,43,58,51⟩ (by kernel_rfl)) rNil))) 0 ⟨58,24,58,52⟩ rfl) (rCons (eVar "_law_other" 3 ⟨58,54,58,64⟩ (by kernel_rfl)) rNil))) 0 ⟨58,15,58,65⟩ rfl) ⟨58,8,58,65⟩) lNil)
lNil ⟨57,4,58,65⟩) (lCons (sIte false (eEq (eVar "_law_kind" 0 ⟨59,7,59,16⟩ (by kernel_rfl)) (eInt 7 0 ⟨59,20,59,21⟩) ⟨59,7,59,21⟩)
(lCons (sRet (eTup (rCons (eStr "plus" z_plus 0 ⟨60,16,60,22⟩ z_plus_e z_plus_k) (rCons (eVar "_law_one" 2 ⟨60,24,60,32⟩ (by kernel_rfl)) (rCons (eVar "_law_other" 3 ⟨60,34,60,44⟩ (by kernel_rfl)) rNil))) 0 ⟨60,15,60,45⟩ rfl) ⟨60,8,60,45⟩) lNil)
lNil ⟨59,4,60,45⟩) (lCons (sIte false (eEq (eVar "_law_kind" 0 ⟨61,7,61,16⟩ (by kernel_rfl)) (eInt 8 0 ⟨61,20,61,21⟩) ⟨61,7,61,21⟩)
(lCons (sRet (eTup (rCons (eStr "less" z_less 0 ⟨62,16,62,22⟩ z_less_e z_less_k) (rCons (eVar "_law_one" 2 ⟨62,24,62,32⟩ (by kernel_rfl)) (rCons (eVar "_law_other" 3 ⟨62,34,62,44⟩ (by kernel_rfl)) rNil))) 0 ⟨62,15,62,45⟩ rfl) ⟨62,8,62,45⟩) lNil)
lNil ⟨61,4,62,45⟩) (lCons (sIte false (eEq (eVar "_law_kind" 0 ⟨63,7,63,16⟩ (by kernel_rfl)) (eInt 9 0 ⟨63,20,63,21⟩) ⟨63,7,63,21⟩)
(lCons (sRet (eTup (rCons (eStr "if" z_if 0 ⟨64,16,64,20⟩ z_if_e z_if_k) (rCons (eVar "_law_one" 2 ⟨64,22,64,30⟩ (by kernel_rfl)) (rCons (eVar "_law_other" 3 ⟨64,32,64,42⟩ (by kernel_rfl)) (rCons (eTup (rCons (eStr "name" z_name 0 ⟨64,45,64,51⟩ z_name_e z_name_k) (rCons (eVar "_law_name" 1 ⟨64,53,64,62⟩ (by kernel_rfl)) rNil)) 0 ⟨64,44,64,63⟩ rfl) rNil)))) 0 ⟨64,15,64,64⟩ rfl) ⟨64,8,64,64⟩) lNil)
lNil ⟨63,4,64,64⟩) (lCons (sRet (eTup (rCons (eStr "let" z_let 0 ⟨65,12,65,17⟩ z_let_e z_let_k) (rCons (eVar "_law_name" 1 ⟨65,19,65,28⟩ (by kernel_rfl)) (rCons (eVar "_law_one" 2 ⟨65,30,65,38⟩ (by kernel_rfl)) (rCons (eVar "_law_other" 3 ⟨65,40,65,50⟩ (by kernel_rfl)) rNil)))) 0 ⟨65,11,65,51⟩ rfl) ⟨65,4,65,51⟩) lNil)))))
theorem b__law_joined_x (d : Nat) : (b__law_joined d).xs = fd__law_joined.st := by kernel_rfl
noncomputable def l__law_tree_by_68 (d : Nat) : SL G d fi__law_tree_by :=
(lCons (sAsg "_law_kind" 4 (eTell (eMod (eVar "_law_cell" 3 ⟨69,20,69,29⟩ (by kernel_rfl)) (eInt 11 0 ⟨69,32,69,34⟩) ⟨69,20,69,34⟩)) ⟨69,8,69,17⟩ ⟨69,8,69,34⟩ (by kernel_rfl)) (lCons (sAsg "_law_more" 5 (eDiv (eVar "_law_cell" 3 ⟨70,20,70,29⟩ (by kernel_rfl)) (eInt 11 0 ⟨70,33,70,35⟩) ⟨70,20,70,35⟩) ⟨70,8,70,17⟩ ⟨70,8,70,35⟩ (by kernel_rfl)) (lCons (sAsg "_law_name" 6 (eIdxV true "_law_names" 1 ⟨71,20,71,30⟩ (eMod (eVar "_law_more" 5 ⟨71,31,71,40⟩ (by kernel_rfl)) (eInt 4 0 ⟨71,43,71,44⟩) ⟨71,31,71,44⟩) ⟨71,20,71,45⟩ (by kernel_rfl)) ⟨71,8,71,17⟩ ⟨71,8,71,45⟩ (by kernel_rfl)) (lCons (sIte false (eBop (bCons false (eLt (eVar "_law_kind" 4 ⟨72,11,72,20⟩ (by kernel_rfl)) (eInt 2 0 ⟨72,23,72,24⟩) ⟨72,11,72,24⟩) (bLast .Or (eBop (bCons false (eNot (eVar "_law_stack" 2 ⟨72,33,72,43⟩ (by kernel_rfl)) ⟨72,29,72,43⟩) (bLast .And (eEq (eMod (eVar "_law_kind" 4 ⟨72,48,72,57⟩ (by kernel_rfl)) (eInt 2 0 ⟨72,60,72,61⟩) ⟨72,48,72,61⟩) (eInt 1 0 ⟨72,65,72,66⟩) ⟨72,48,72,66⟩))) ⟨72,29,72,66⟩))) ⟨72,11,72,67⟩)
(lCons (sApp "_law_stack" 2 (eTup (rCons (eStr "name" z_name 0 ⟨73,31,73,37⟩ z_name_e z_name_k) (rCons (eVar "_law_name" 6 ⟨73,39,73,48⟩ (by kernel_rfl)) rNil)) 0 ⟨73,30,73,49⟩ rfl) ⟨73,12,73,22⟩ ⟨73,12,73,29⟩ ⟨73,12,73,50⟩ ⟨73,12,73,50⟩ (by kernel_rfl)) lNil)
(lCons (sIte false (eBop (bCons false (eEq (eVar "_law_kind" 4 ⟨74,13,74,22⟩ (by kernel_rfl)) (eInt 2 0 ⟨74,26,74,27⟩) ⟨74,13,74,27⟩) (bLast .Or (eNot (eVar "_law_stack" 2 ⟨74,35,74,45⟩ (by kernel_rfl)) ⟨74,31,74,45⟩))) ⟨74,13,74,45⟩)
(lCons (sApp "_law_stack" 2 (eTup (rCons (eStr "num" z_num 0 ⟨75,31,75,36⟩ z_num_e z_num_k) (rCons (eMod (eVar "_law_more" 5 ⟨75,38,75,47⟩ (by kernel_rfl)) (ePow (eInt 10 0 ⟨75,50,75,52⟩) (eInt 60 0 ⟨75,56,75,58⟩) ⟨75,50,75,58⟩) ⟨75,38,75,58⟩) rNil)) 0 ⟨75,30,75,59⟩ rfl) ⟨75,12,75,22⟩ ⟨75,12,75,29⟩ ⟨75,12,75,60⟩ ⟨75,12,75,60⟩ (by kernel_rfl)) lNil)
(lCons (sIte false (eEq (eVar "_law_kind" 4 ⟨76,13,76,22⟩ (by kernel_rfl)) (eInt 3 0 ⟨76,26,76,27⟩) ⟨76,13,76,27⟩)
(lCons (sSet "_law_stack" 2 (eNeg (eInt 1 0 ⟨77,24,77,25⟩) ⟨77,23,77,25⟩) (eTup (rCons (eStr "fun" z_fun 0 ⟨77,30,77,35⟩ z_fun_e z_fun_k) (rCons (eVar "_law_name" 6 ⟨77,37,77,46⟩ (by kernel_rfl)) (rCons (eIdxV false "_law_stack" 2 ⟨77,48,77,58⟩ (eNeg (eInt 1 0 ⟨77,60,77,61⟩) ⟨77,59,77,61⟩) ⟨77,48,77,62⟩ (by kernel_rfl)) rNil))) 0 ⟨77,29,77,63⟩ rfl) ⟨77,12,77,22⟩ ⟨77,12,77,26⟩ ⟨77,12,77,63⟩ (by kernel_rfl)) lNil)
(lCons (sIte false (eEq (eVar "_law_kind" 4 ⟨78,13,78,22⟩ (by kernel_rfl)) (eInt 4 0 ⟨78,26,78,27⟩) ⟨78,13,78,27⟩)
(lCons (sSet "_law_stack" 2 (eNeg (eInt 1 0 ⟨79,24,79,25⟩) ⟨79,23,79,25⟩) (eTup (rCons (eStr "call" z_call 0 ⟨79,30,79,36⟩ z_call_e z_call_k) (rCons (eIdxV false "_law_stack" 2 ⟨79,38,79,48⟩ (eNeg (eInt 1 0 ⟨79,50,79,51⟩) ⟨79,49,79,51⟩) ⟨79,38,79,52⟩ (by kernel_rfl)) (rCons (eTup (rCons (eStr "name" z_name 0 ⟨79,55,79,61⟩ z_name_e z_name_k) (rCons (eVar "_law_name" 6 ⟨79,63,79,72⟩ (by kernel_rfl)) rNil)) 0 ⟨79,54,79,73⟩ rfl) rNil))) 0 ⟨79,29,79,74⟩ rfl) ⟨79,12,79,22⟩ ⟨79,12,79,26⟩ ⟨79,12,79,74⟩ (by kernel_rfl)) lNil)
(lCons (sIte false (eEq (eVar "_law_kind" 4 ⟨80,13,80,22⟩ (by kernel_rfl)) (eInt 5 0 ⟨80,26,80,27⟩) ⟨80,13,80,27⟩)
(lCons (sSet "_law_stack" 2 (eNeg (eInt 1 0 ⟨81,24,81,25⟩) ⟨81,23,81,25⟩) (eTup (rCons (eStr "let" z_let 0 ⟨81,30,81,35⟩ z_let_e z_let_k) (rCons (eVar "_law_name" 6 ⟨81,37,81,46⟩ (by kernel_rfl)) (rCons (eTup (rCons (eStr "name" z_name 0 ⟨81,49,81,55⟩ z_name_e z_name_k) (rCons (eVar "_law_name" 6 ⟨81,57,81,66⟩ (by kernel_rfl)) rNil)) 0 ⟨81,48,81,67⟩ rfl) (rCons (eIdxV false "_law_stack" 2 ⟨81,69,81,79⟩ (eNeg (eInt 1 0 ⟨81,81,81,82⟩) ⟨81,80,81,82⟩) ⟨81,69,81,83⟩ (by kernel_rfl)) rNil)))) 0 ⟨81,29,81,84⟩ rfl) ⟨81,12,81,22⟩ ⟨81,12,81,26⟩ ⟨81,12,81,84⟩ (by kernel_rfl)) lNil)
(lCons (sIte false (eEq (eLen (eVar "_law_stack" 2 ⟨82,17,82,27⟩ (by kernel_rfl)) ⟨82,13,82,16⟩ ⟨82,13,82,28⟩ (by kernel_rfl)) (eInt 1 0 ⟨82,32,82,33⟩) ⟨82,13,82,33⟩)
(lCons (sSet "_law_stack" 2 (eNeg (eInt 1 0 ⟨83,24,83,25⟩) ⟨83,23,83,25⟩) (eTup (rCons (eStr "less" z_less 0 ⟨83,30,83,36⟩ z_less_e z_less_k) (rCons (eTup (rCons (eStr "name" z_name 0 ⟨83,39,83,45⟩ z_name_e z_name_k) (rCons (eVar "_law_name" 6 ⟨83,47,83,56⟩ (by kernel_rfl)) rNil)) 0 ⟨83,38,83,57⟩ rfl) (rCons (eIdxV false "_law_stack" 2 ⟨83,59,83,69⟩ (eNeg (eInt 1 0 ⟨83,71,83,72⟩) ⟨83,70,83,72⟩) ⟨83,59,83,73⟩ (by kernel_rfl)) rNil))) 0 ⟨83,29,83,74⟩ rfl) ⟨83,12,83,22⟩ ⟨83,12,83,26⟩ ⟨83,12,83,74⟩ (by kernel_rfl)) lNil)
(lCons (sAsg "_law_other" 7 (ePop "_law_stack" 2 ⟨85,25,85,35⟩ ⟨85,25,85,39⟩ ⟨85,25,85,41⟩ (by kernel_rfl)) ⟨85,12,85,22⟩ ⟨85,12,85,41⟩ (by kernel_rfl)) (lCons (sSet "_law_stack" 2 (eNeg (eInt 1 0 ⟨86,24,86,25⟩) ⟨86,23,86,25⟩) (eCall "_law_joined" 54 (rCons (eVar "_law_kind" 4 ⟨86,41,86,50⟩ (by kernel_rfl)) (rCons (eVar "_law_name" 6 ⟨86,52,86,61⟩ (by kernel_rfl)) (rCons (eIdxV false "_law_stack" 2 ⟨86,63,86,73⟩ (eNeg (eInt 1 0 ⟨86,75,86,76⟩) ⟨86,74,86,76⟩) ⟨86,63,86,77⟩ (by kernel_rfl)) (rCons (eVar "_law_other" 7 ⟨86,79,86,89⟩ (by kernel_rfl)) rNil)))) ⟨86,29,86,40⟩ ⟨86,29,86,90⟩ (by kernel_rfl)) ⟨86,12,86,22⟩ ⟨86,12,86,26⟩ ⟨86,12,86,90⟩ (by kernel_rfl)) lNil)) ⟨82,8,86,90⟩) lNil) ⟨80,8,86,90⟩) lNil) ⟨78,8,86,90⟩) lNil) ⟨76,8,86,90⟩) lNil) ⟨74,8,86,90⟩) lNil) ⟨72,8,86,90⟩) lNil))))
noncomputable def c__law_tree_by_87 (d : Nat) : T G d fi__law_tree_by := (eGt (eLen (eVar "_law_stack" 2 ⟨87,14,87,24⟩ (by kernel_rfl)) ⟨87,10,87,13⟩ ⟨87,10,87,25⟩ (by kernel_rfl)) (eInt 1 0 ⟨87,28,87,29⟩) ⟨87,10,87,29⟩)
noncomputable def l__law_tree_by_87 (d : Nat) : SL G d fi__law_tree_by :=
(lCons (sAsg "_law_other" 7 (ePop "_law_stack" 2 ⟨88,21,88,31⟩ ⟨88,21,88,35⟩ ⟨88,21,88,37⟩ (by kernel_rfl)) ⟨88,8,88,18⟩ ⟨88,8,88,37⟩ (by kernel_rfl)) (lCons (sSet "_law_stack" 2 (eNeg (eInt 1 0 ⟨89,20,89,21⟩) ⟨89,19,89,21⟩) (eTup (rCons (eStr "let" z_let 0 ⟨89,26,89,31⟩ z_let_e z_let_k) (rCons (eIdxV true "_law_names" 1 ⟨89,33,89,43⟩ (eMod (eLen (eVar "_law_stack" 2 ⟨89,48,89,58⟩ (by kernel_rfl)) ⟨89,44,89,47⟩ ⟨89,44,89,59⟩ (by kernel_rfl)) (eInt 4 0 ⟨89,62,89,63⟩) ⟨89,44,89,63⟩) ⟨89,33,89,64⟩ (by kernel_rfl)) (rCons (eIdxV false "_law_stack" 2 ⟨89,66,89,76⟩ (eNeg (eInt 1 0 ⟨89,78,89,79⟩) ⟨89,77,89,79⟩) ⟨89,66,89,80⟩ (by kernel_rfl)) (rCons (eVar "_law_other" 7 ⟨89,82,89,92⟩ (by kernel_rfl)) rNil)))) 0 ⟨89,25,89,93⟩ rfl) ⟨89,8,89,18⟩ ⟨89,8,89,22⟩ ⟨89,8,89,93⟩ (by kernel_rfl)) lNil))
noncomputable def b__law_tree_by (d : Nat) : SL G d fi__law_tree_by :=
(lCons (sAsg "_law_stack" 2 (eLst rNil ⟨67,17,67,19⟩ rfl) ⟨67,4,67,14⟩ ⟨67,4,67,19⟩ (by kernel_rfl)) (lCons (sFor "_law_cell" (iList (eVar "_law_cells" 0 ⟨68,21,68,31⟩ (by kernel_rfl))) (l__law_tree_by_68 d) ⟨68,8,68,17⟩ ⟨68,4,86,90⟩) (lCons (sWhil (c__law_tree_by_87 d) (l__law_tree_by_87 d) ⟨87,4,89,93⟩) (lCons (sIte false (eVar "_law_stack" 2 ⟨90,7,90,17⟩ (by kernel_rfl))
(lCons (sRet (eIdxV false "_law_stack" 2 ⟨91,15,91,25⟩ (eInt 0 0 ⟨91,26,91,27⟩) ⟨91,15,91,28⟩ (by kernel_rfl)) ⟨91,8,91,28⟩) lNil)
lNil ⟨90,4,91,28⟩) (lCons (sRet (eTup (rCons (eStr "name" z_name 0 ⟨92,12,92,18⟩ z_name_e z_name_k) (rCons (eIdxV false "_law_names" 1 ⟨92,20,92,30⟩ (eInt 0 0 ⟨92,31,92,32⟩) ⟨92,20,92,33⟩ (by kernel_rfl)) rNil)) 0 ⟨92,11,92,34⟩ rfl) ⟨92,4,92,34⟩) lNil)))))
theorem b__law_tree_by_x (d : Nat) : (b__law_tree_by d).xs = fd__law_tree_by.st := by kernel_rfl
noncomputable def b__law_leaf (d : Nat) : SL G d fi__law_leaf :=
(lCons (sIte false (eBop (bCons false (eIsi (eVar "_law_one" 0 ⟨94,18,94,26⟩ (by kernel_rfl)) .bool ⟨94,7,94,17⟩ ⟨94,28,94,32⟩ ⟨94,7,94,33⟩ (by kernel_rfl)) (bCons false (eIsi (eVar "_law_other" 1 ⟨94,48,94,58⟩ (by kernel_rfl)) .bool ⟨94,37,94,47⟩ ⟨94,60,94,64⟩ ⟨94,37,94,65⟩ (by kernel_rfl)) (bLast .Or (eNe (eIsi (eVar "_law_one" 0 ⟨94,80,94,88⟩ (by kernel_rfl)) .str ⟨94,69,94,79⟩ ⟨94,90,94,93⟩ ⟨94,69,94,94⟩ (by kernel_rfl)) (eIsi (eVar "_law_other" 1 ⟨94,109,94,119⟩ (by kernel_rfl)) .str ⟨94,98,94,108⟩ ⟨94,121,94,124⟩ ⟨94,98,94,125⟩ (by kernel_rfl)) ⟨94,69,94,125⟩)))) ⟨94,7,94,125⟩)
(lCons (sRet (eBool false 0 ⟨95,15,95,20⟩) ⟨95,8,95,20⟩) lNil)
lNil ⟨94,4,95,20⟩) (lCons (sRet (eBop (bCons false (eBop (bCons false (eIsi (eVar "_law_one" 0 ⟨96,23,96,31⟩ (by kernel_rfl)) .str ⟨96,12,96,22⟩ ⟨96,33,96,36⟩ ⟨96,12,96,37⟩ (by kernel_rfl)) (bLast .Or (eBop (bCons false (eIsi (eVar "_law_one" 0 ⟨96,53,96,61⟩ (by kernel_rfl)) .int ⟨96,42,96,52⟩ ⟨96,63,96,66⟩ ⟨96,42,96,67⟩ (by kernel_rfl)) (bLast .And (eIsi (eVar "_law_other" 1 ⟨96,83,96,93⟩ (by kernel_rfl)) .int ⟨96,72,96,82⟩ ⟨96,95,96,98⟩ ⟨96,72,96,99⟩ (by kernel_rfl)))) ⟨96,42,96,99⟩))) ⟨96,12,96,100⟩) (bLast .And (eEq (eVar "_law_one" 0 ⟨96,106,96,114⟩ (by kernel_rfl)) (eVar "_law_other" 1 ⟨96,118,96,128⟩ (by kernel_rfl)) ⟨96,106,96,128⟩))) ⟨96,11,96,128⟩) ⟨96,4,96,128⟩) lNil))
theorem b__law_leaf_x (d : Nat) : (b__law_leaf d).xs = fd__law_leaf.st := by kernel_rfl
noncomputable def l__law_put_right_111 (d : Nat) : SL G d fi__law_put_right :=
(lCons (sAsg "_law_inner" 9 (eBop (bCons false (eIdxV false "_law_row" 5 ⟨112,29,112,37⟩ (eInt 2 0 ⟨112,38,112,39⟩) ⟨112,29,112,40⟩ (by kernel_rfl)) (bLast .Or (eBop (bCons false (eEq (eIdxV false "_law_one" 6 ⟨112,45,112,53⟩ (eInt 0 0 ⟨112,54,112,55⟩) ⟨112,45,112,56⟩ (by kernel_rfl)) (eStr "fun" z_fun 0 ⟨112,60,112,65⟩ z_fun_e z_fun_k) ⟨112,45,112,65⟩) (bLast .And (eEq (eIdxV false "_law_one" 6 ⟨112,70,112,78⟩ (eInt 1 0 ⟨112,79,112,80⟩) ⟨112,70,112,81⟩ (by kernel_rfl)) (eVar "_law_name" 2 ⟨112,85,112,94⟩ (by kernel_rfl)) ⟨112,70,112,94⟩))) ⟨112,45,112,94⟩))) ⟨112,29,112,95⟩) ⟨112,16,112,26⟩ ⟨112,16,112,95⟩ (by kernel_rfl)) (lCons (sApp "_law_todo" 4 (eTup (rCons (eIdxV false "_law_one" 6 ⟨113,34,113,42⟩ (eVar "_law_k" 8 ⟨113,43,113,49⟩ (by kernel_rfl)) ⟨113,34,113,50⟩ (by kernel_rfl)) (rCons (eIdxV false "_law_other" 7 ⟨113,52,113,62⟩ (eVar "_law_k" 8 ⟨113,63,113,69⟩ (by kernel_rfl)) ⟨113,52,113,70⟩ (by kernel_rfl)) (rCons (eBop (bCons true (eVar "_law_inner" 9 ⟨113,72,113,82⟩ (by kernel_rfl)) (bLast .Or (eBop (bCons false (eEq (eIdxV false "_law_one" 6 ⟨113,87,113,95⟩ (eInt 0 0 ⟨113,96,113,97⟩) ⟨113,87,113,98⟩ (by kernel_rfl)) (eStr "let" z_let 0 ⟨113,102,113,107⟩ z_let_e z_let_k) ⟨113,87,113,107⟩) (bCons true (eEq (eIdxV false "_law_one" 6 ⟨113,112,113,120⟩ (eInt 1 0 ⟨113,121,113,122⟩) ⟨113,112,113,123⟩ (by kernel_rfl)) (eVar "_law_name" 2 ⟨113,127,113,136⟩ (by kernel_rfl)) ⟨113,112,113,136⟩) (bLast .And (eEq (eVar "_law_k" 8 ⟨113,142,113,148⟩ (by kernel_rfl)) (eInt 3 0 ⟨113,152,113,153⟩) ⟨113,142,113,153⟩)))) ⟨113,87,113,154⟩))) ⟨113,72,113,155⟩) rNil))) 0 ⟨113,33,113,156⟩ rfl) ⟨113,16,113,25⟩ ⟨113,16,113,32⟩ ⟨113,16,113,157⟩ ⟨113,16,113,157⟩ (by kernel_rfl)) lNil))
noncomputable def c__law_put_right_99 (d : Nat) : T G d fi__law_put_right := (eVar "_law_todo" 4 ⟨99,10,99,19⟩ (by kernel_rfl))
noncomputable def l__law_put_right_99 (d : Nat) : SL G d fi__law_put_right :=
(lCons (sAsg "_law_row" 5 (ePop "_law_todo" 4 ⟨100,19,100,28⟩ ⟨100,19,100,32⟩ ⟨100,19,100,34⟩ (by kernel_rfl)) ⟨100,8,100,16⟩ ⟨100,8,100,34⟩ (by kernel_rfl)) (lCons (sAsg "_law_one" 6 (eIdxV false "_law_row" 5 ⟨101,19,101,27⟩ (eInt 0 0 ⟨101,28,101,29⟩) ⟨101,19,101,30⟩ (by kernel_rfl)) ⟨101,8,101,16⟩ ⟨101,8,101,30⟩ (by kernel_rfl)) (lCons (sAsg "_law_other" 7 (eIdxV false "_law_row" 5 ⟨102,21,102,29⟩ (eInt 1 0 ⟨102,30,102,31⟩) ⟨102,21,102,32⟩ (by kernel_rfl)) ⟨102,8,102,18⟩ ⟨102,8,102,32⟩ (by kernel_rfl)) (lCons (sIte false (eBop (bCons false (eIsi (eVar "_law_one" 6 ⟨103,22,103,30⟩ (by kernel_rfl)) .tuple ⟨103,11,103,21⟩ ⟨103,32,103,37⟩ ⟨103,11,103,38⟩ (by kernel_rfl)) (bCons false (eEq (eLen (eVar "_law_one" 6 ⟨103,47,103,55⟩ (by kernel_rfl)) ⟨103,43,103,46⟩ ⟨103,43,103,56⟩ (by kernel_rfl)) (eInt 2 0 ⟨103,60,103,61⟩) ⟨103,43,103,61⟩) (bCons false (eEq (eIdxV false "_law_one" 6 ⟨103,67,103,75⟩ (eInt 0 0 ⟨103,76,103,77⟩) ⟨103,67,103,78⟩ (by kernel_rfl)) (eStr "name" z_name 0 ⟨103,82,103,88⟩ z_name_e z_name_k) ⟨103,67,103,88⟩) (bCons true (eEq (eIdxV false "_law_one" 6 ⟨103,95,103,103⟩ (eInt 1 0 ⟨103,104,103,105⟩) ⟨103,95,103,106⟩ (by kernel_rfl)) (eVar "_law_name" 2 ⟨103,110,103,119⟩ (by kernel_rfl)) ⟨103,95,103,119⟩) (bLast .And (eNot (eIdxV false "_law_row" 5 ⟨103,130,103,138⟩ (eInt 2 0 ⟨103,139,103,140⟩) ⟨103,130,103,141⟩ (by kernel_rfl)) ⟨103,126,103,141⟩)))))) ⟨103,11,103,142⟩)
(lCons (sApp "_law_todo" 4 (eTup (rCons (eVar "_law_value" 3 ⟨104,30,104,40⟩ (by kernel_rfl)) (rCons (eVar "_law_other" 7 ⟨104,42,104,52⟩ (by kernel_rfl)) (rCons (eBool true 0 ⟨104,54,104,58⟩) rNil))) 0 ⟨104,29,104,59⟩ rfl) ⟨104,12,104,21⟩ ⟨104,12,104,28⟩ ⟨104,12,104,60⟩ ⟨104,12,104,60⟩ (by kernel_rfl)) lNil)
(lCons (sIte false (eNot (eIsi (eVar "_law_one" 6 ⟨105,28,105,36⟩ (by kernel_rfl)) .tuple ⟨105,17,105,27⟩ ⟨105,38,105,43⟩ ⟨105,17,105,44⟩ (by kernel_rfl)) ⟨105,13,105,44⟩)
(lCons (sIte false (eBop (bCons false (eIsi (eVar "_law_other" 7 ⟨106,26,106,36⟩ (by kernel_rfl)) .tuple ⟨106,15,106,25⟩ ⟨106,38,106,43⟩ ⟨106,15,106,44⟩ (by kernel_rfl)) (bLast .Or (eNot (eCall "_law_leaf" 68 (rCons (eVar "_law_one" 6 ⟨106,62,106,70⟩ (by kernel_rfl)) (rCons (eVar "_law_other" 7 ⟨106,72,106,82⟩ (by kernel_rfl)) rNil)) ⟨106,52,106,61⟩ ⟨106,52,106,83⟩ (by kernel_rfl)) ⟨106,48,106,83⟩))) ⟨106,15,106,83⟩)
(lCons (sRet (eBool false 0 ⟨107,23,107,28⟩) ⟨107,16,107,28⟩) lNil)
lNil ⟨106,12,107,28⟩) lNil)
(lCons (sIte false (eBop (bCons false (eNot (eIsi (eVar "_law_other" 7 ⟨108,28,108,38⟩ (by kernel_rfl)) .tuple ⟨108,17,108,27⟩ ⟨108,40,108,45⟩ ⟨108,17,108,46⟩ (by kernel_rfl)) ⟨108,13,108,46⟩) (bLast .Or (eNe (eLen (eVar "_law_one" 6 ⟨108,54,108,62⟩ (by kernel_rfl)) ⟨108,50,108,53⟩ ⟨108,50,108,63⟩ (by kernel_rfl)) (eLen (eVar "_law_other" 7 ⟨108,71,108,81⟩ (by kernel_rfl)) ⟨108,67,108,70⟩ ⟨108,67,108,82⟩ (by kernel_rfl)) ⟨108,50,108,82⟩))) ⟨108,13,108,82⟩)
(lCons (sRet (eBool false 0 ⟨109,19,109,24⟩) ⟨109,12,109,24⟩) lNil)
(lCons (sFor "_law_k" (iRange (rCons (eLen (eVar "_law_one" 6 ⟨111,36,111,44⟩ (by kernel_rfl)) ⟨111,32,111,35⟩ ⟨111,32,111,45⟩ (by kernel_rfl)) rNil) ⟨111,26,111,31⟩ ⟨111,26,111,46⟩ (by kernel_rfl)) (l__law_put_right_111 d) ⟨111,16,111,22⟩ ⟨111,12,113,157⟩) lNil) ⟨108,8,113,157⟩) lNil) ⟨105,8,113,157⟩) lNil) ⟨103,8,113,157⟩) lNil))))
noncomputable def b__law_put_right (d : Nat) : SL G d fi__law_put_right :=
(lCons (sAsg "_law_todo" 4 (eLst (rCons (eTup (rCons (eVar "_law_tree" 0 ⟨98,18,98,27⟩ (by kernel_rfl)) (rCons (eVar "_law_found" 1 ⟨98,29,98,39⟩ (by kernel_rfl)) (rCons (eBool false 0 ⟨98,41,98,46⟩) rNil))) 0 ⟨98,17,98,47⟩ rfl) rNil) ⟨98,16,98,48⟩ rfl) ⟨98,4,98,13⟩ ⟨98,4,98,48⟩ (by kernel_rfl)) (lCons (sWhil (c__law_put_right_99 d) (l__law_put_right_99 d) ⟨99,4,113,157⟩) (lCons (sRet (eBool true 0 ⟨114,11,114,15⟩) ⟨114,4,114,15⟩) lNil)))
theorem b__law_put_right_x (d : Nat) : (b__law_put_right d).xs = fd__law_put_right.st := by kernel_rfl
noncomputable def s_law_118_17 : Scope := ⟨.function, [(".0", .local), ("_law_k", .local), ("_law_name_by", .globalImplicit), ("_law_first", .free)], false, false, []⟩
noncomputable def e_law_118_17 (d : Nat) : T G d (fi_law.inner s_law_118_17 "_law_k" 12) := (eCall "_law_name_by" 47 (rCons (eAdd (eSub (eVar "_law_first" 1 ⟨118,31,118,41⟩ (by kernel_rfl)) (eMod (eVar "_law_first" 1 ⟨118,44,118,54⟩ (by kernel_rfl)) (eInt 26 0 ⟨118,57,118,59⟩) ⟨118,44,118,59⟩) ⟨118,31,118,59⟩) (eMod (eAdd (eVar "_law_first" 1 ⟨118,63,118,73⟩ (by kernel_rfl)) (eMul (eInt 7 0 ⟨118,76,118,77⟩) (eVar "_law_k" 12 ⟨118,80,118,86⟩ (by kernel_rfl)) ⟨118,76,118,86⟩) ⟨118,63,118,86⟩) (eInt 26 0 ⟨118,90,118,92⟩) ⟨118,62,118,92⟩) ⟨118,31,118,92⟩) rNil) ⟨118,18,118,30⟩ ⟨118,18,118,93⟩ (by kernel_rfl))
noncomputable def l_law_129 (d : Nat) : SL G d fi_law :=
(lCons (sAsg "_law_tree" 5 (eTup (rCons (eStr "plus" z_plus 0 ⟨130,25,130,31⟩ z_plus_e z_plus_k) (rCons (eVar "_law_tree" 5 ⟨130,33,130,42⟩ (by kernel_rfl)) (rCons (eTup (rCons (eStr "name" z_name 0 ⟨130,45,130,51⟩ z_name_e z_name_k) (rCons (eIdxV true "_law_names" 4 ⟨130,53,130,63⟩ (eMod (eVar "_law_k" 3 ⟨130,64,130,70⟩ (by kernel_rfl)) (eInt 4 0 ⟨130,73,130,74⟩) ⟨130,64,130,74⟩) ⟨130,53,130,75⟩ (by kernel_rfl)) rNil)) 0 ⟨130,44,130,76⟩ rfl) rNil))) 0 ⟨130,24,130,77⟩ rfl) ⟨130,12,130,21⟩ ⟨130,12,130,77⟩ (by kernel_rfl)) lNil)
noncomputable def b_law (d : Nat) : SL G d fi_law :=
(lCons (sAsg "_law_first" 1 (eCall "_law_cell_at" 35 (rCons (eVar "_law_script" 0 ⟨116,30,116,41⟩ (by kernel_rfl)) (rCons (eInt 0 0 ⟨116,43,116,44⟩) rNil)) ⟨116,17,116,29⟩ ⟨116,17,116,45⟩ (by kernel_rfl)) ⟨116,4,116,14⟩ ⟨116,4,116,45⟩ (by kernel_rfl)) (lCons (sAsg "_law_second" 2 (eCall "_law_cell_at" 35 (rCons (eVar "_law_script" 0 ⟨117,31,117,42⟩ (by kernel_rfl)) (rCons (eInt 1 0 ⟨117,44,117,45⟩) rNil)) ⟨117,18,117,30⟩ ⟨117,18,117,46⟩ (by kernel_rfl)) ⟨117,4,117,15⟩ ⟨117,4,117,46⟩ (by kernel_rfl)) (lCons (sAsgC "_law_names" 4 ⟨118,4,118,14⟩ ⟨118,4,118,117⟩ "_law_k" 12 ⟨118,98,118,104⟩ (iRange (rCons (eInt 4 0 ⟨118,114,118,115⟩) rNil) ⟨118,108,118,113⟩ ⟨118,108,118,116⟩ (by kernel_rfl)) s_law_118_17 (e_law_118_17 d) ⟨118,17,118,117⟩ (by kernel_rfl)) (lCons (sIte true (eEq (eMod (eDiv (eVar "_law_first" 1 ⟨119,7,119,17⟩ (by kernel_rfl)) (eInt 26 0 ⟨119,21,119,23⟩) ⟨119,7,119,23⟩) (eInt 3 0 ⟨119,26,119,27⟩) ⟨119,7,119,27⟩) (eInt 1 0 ⟨119,31,119,32⟩) ⟨119,7,119,32⟩)
(lCons (sAsg "_law_names" 4 (eCall "_law_kin_by" 40 (rCons (eDiv (eVar "_law_first" 1 ⟨120,33,120,43⟩ (by kernel_rfl)) (eInt 78 0 ⟨120,47,120,49⟩) ⟨120,33,120,49⟩) (rCons (eLen (eVar "_law_names" 4 ⟨120,55,120,65⟩ (by kernel_rfl)) ⟨120,51,120,54⟩ ⟨120,51,120,66⟩ (by kernel_rfl)) rNil)) ⟨120,21,120,32⟩ ⟨120,21,120,67⟩ (by kernel_rfl)) ⟨120,8,120,18⟩ ⟨120,8,120,67⟩ (by kernel_rfl)) lNil)
lNil ⟨119,4,120,67⟩) (lCons (sAsg "_law_tree" 5 (eCall "_law_tree_by" 61 (rCons (eSlc (eVar "_law_script" 0 ⟨121,29,121,40⟩ (by kernel_rfl)) (dSome (eInt 8 0 ⟨121,41,121,42⟩)) (dSome (eInt 58 0 ⟨121,43,121,45⟩)) ⟨121,41,121,45⟩ ⟨121,29,121,46⟩) (rCons (eVar "_law_names" 4 ⟨121,48,121,58⟩ (by kernel_rfl)) rNil)) ⟨121,16,121,28⟩ ⟨121,16,121,59⟩ (by kernel_rfl)) ⟨121,4,121,13⟩ ⟨121,4,121,59⟩ (by kernel_rfl)) (lCons (sAsg "_law_name" 6 (eIdxV true "_law_names" 4 ⟨122,16,122,26⟩ (eMod (eCall "_law_cell_at" 35 (rCons (eVar "_law_script" 0 ⟨122,40,122,51⟩ (by kernel_rfl)) (rCons (eInt 2 0 ⟨122,53,122,54⟩) rNil)) ⟨122,27,122,39⟩ ⟨122,27,122,55⟩ (by kernel_rfl)) (eInt 4 0 ⟨122,58,122,59⟩) ⟨122,27,122,59⟩) ⟨122,16,122,60⟩ (by kernel_rfl)) ⟨122,4,122,13⟩ ⟨122,4,122,60⟩ (by kernel_rfl)) (lCons (sAsg "_law_other" 7 (eIdxV true "_law_names" 4 ⟨123,17,123,27⟩ (eMod (eDiv (eVar "_law_second" 2 ⟨123,28,123,39⟩ (by kernel_rfl)) (eInt 5 0 ⟨123,43,123,44⟩) ⟨123,28,123,44⟩) (eInt 4 0 ⟨123,47,123,48⟩) ⟨123,28,123,48⟩) ⟨123,17,123,49⟩ (by kernel_rfl)) ⟨123,4,123,14⟩ ⟨123,4,123,49⟩ (by kernel_rfl)) (lCons (sAsg "_law_number" 8 (eTup (rCons (eStr "num" z_num 0 ⟨124,19,124,24⟩ z_num_e z_num_k) (rCons (eAdd (eSub (eMod (eDiv (eVar "_law_second" 2 ⟨124,26,124,37⟩ (by kernel_rfl)) (eInt 20 0 ⟨124,41,124,43⟩) ⟨124,26,124,43⟩) (eSub (eMul (eInt 2 0 ⟨124,47,124,48⟩) (ePow (eInt 10 0 ⟨124,51,124,53⟩) (eInt 60 0 ⟨124,57,124,59⟩) ⟨124,51,124,59⟩) ⟨124,47,124,59⟩) (eInt 1 0 ⟨124,62,124,63⟩) ⟨124,47,124,63⟩) ⟨124,26,124,64⟩) (ePow (eInt 10 0 ⟨124,67,124,69⟩) (eInt 60 0 ⟨124,73,124,75⟩) ⟨124,67,124,75⟩) ⟨124,26,124,75⟩) (eInt 1 0 ⟨124,78,124,79⟩) ⟨124,26,124,79⟩) rNil)) 0 ⟨124,18,124,80⟩ rfl) ⟨124,4,124,15⟩ ⟨124,4,124,80⟩ (by kernel_rfl)) (lCons (sAsg "_law_some" 9 (eLst (rCons (eVar "_law_number" 8 ⟨125,17,125,28⟩ (by kernel_rfl)) (rCons (eVar "_law_number" 8 ⟨125,30,125,41⟩ (by kernel_rfl)) (rCons (eTup (rCons (eStr "fun" z_fun 0 ⟨125,44,125,49⟩ z_fun_e z_fun_k) (rCons (eVar "_law_other" 7 ⟨125,51,125,61⟩ (by kernel_rfl)) (rCons (eTup (rCons (eStr "name" z_name 0 ⟨125,64,125,70⟩ z_name_e z_name_k) (rCons (eVar "_law_other" 7 ⟨125,72,125,82⟩ (by kernel_rfl)) rNil)) 0 ⟨125,63,125,83⟩ rfl) rNil))) 0 ⟨125,43,125,84⟩ rfl) (rCons (eTup (rCons (eStr "fun" z_fun 0 ⟨125,87,125,92⟩ z_fun_e z_fun_k) (rCons (eVar "_law_name" 6 ⟨125,94,125,103⟩ (by kernel_rfl)) (rCons (eTup (rCons (eStr "plus" z_plus 0 ⟨125,106,125,112⟩ z_plus_e z_plus_k) (rCons (eTup (rCons (eStr "name" z_name 0 ⟨125,115,125,121⟩ z_name_e z_name_k) (rCons (eVar "_law_name" 6 ⟨125,123,125,132⟩ (by kernel_rfl)) rNil)) 0 ⟨125,114,125,133⟩ rfl) (rCons (eVar "_law_number" 8 ⟨125,135,125,146⟩ (by kernel_rfl)) rNil))) 0 ⟨125,105,125,147⟩ rfl) rNil))) 0 ⟨125,86,125,148⟩ rfl) rNil)))) ⟨125,16,125,149⟩ rfl) ⟨125,4,125,13⟩ ⟨125,4,125,149⟩ (by kernel_rfl)) (lCons (sApp "_law_some" 9 (eTup (rCons (eStr "fun" z_fun 0 ⟨126,22,126,27⟩ z_fun_e z_fun_k) (rCons (eVar "_law_other" 7 ⟨126,29,126,39⟩ (by kernel_rfl)) (rCons (eTup (rCons (eStr "fun" z_fun 0 ⟨126,42,126,47⟩ z_fun_e z_fun_k) (rCons (eVar "_law_name" 6 ⟨126,49,126,58⟩ (by kernel_rfl)) (rCons (eTup (rCons (eStr "call" z_call 0 ⟨126,61,126,67⟩ z_call_e z_call_k) (rCons (eTup (rCons (eStr "name" z_name 0 ⟨126,70,126,76⟩ z_name_e z_name_k) (rCons (eVar "_law_name" 6 ⟨126,78,126,87⟩ (by kernel_rfl)) rNil)) 0 ⟨126,69,126,88⟩ rfl) (rCons (eTup (rCons (eStr "name" z_name 0 ⟨126,91,126,97⟩ z_name_e z_name_k) (rCons (eVar "_law_other" 7 ⟨126,99,126,109⟩ (by kernel_rfl)) rNil)) 0 ⟨126,90,126,110⟩ rfl) rNil))) 0 ⟨126,60,126,111⟩ rfl) rNil))) 0 ⟨126,41,126,112⟩ rfl) rNil))) 0 ⟨126,21,126,113⟩ rfl) ⟨126,4,126,13⟩ ⟨126,4,126,20⟩ ⟨126,4,126,114⟩ ⟨126,4,126,114⟩ (by kernel_rfl)) (lCons (sAsg "_law_value" 10 (eIdxV true "_law_some" 9 ⟨127,17,127,26⟩ (eMod (eVar "_law_second" 2 ⟨127,27,127,38⟩ (by kernel_rfl)) (eInt 5 0 ⟨127,41,127,42⟩) ⟨127,27,127,42⟩) ⟨127,17,127,43⟩ (by kernel_rfl)) ⟨127,4,127,14⟩ ⟨127,4,127,43⟩ (by kernel_rfl)) (lCons (sIte true (eEq (eMod (eDiv (eCall "_law_cell_at" 35 (rCons (eVar "_law_script" 0 ⟨128,20,128,31⟩ (by kernel_rfl)) (rCons (eInt 2 0 ⟨128,33,128,34⟩) rNil)) ⟨128,7,128,19⟩ ⟨128,7,128,35⟩ (by kernel_rfl)) (eInt 4 0 ⟨128,39,128,40⟩) ⟨128,7,128,40⟩) (eInt 8 0 ⟨128,43,128,44⟩) ⟨128,7,128,44⟩) (eInt 1 0 ⟨128,48,128,49⟩) ⟨128,7,128,49⟩)
(lCons (sFor "_law_k" (iRange (rCons (eInt 250 0 ⟨129,28,129,31⟩) rNil) ⟨129,22,129,27⟩ ⟨129,22,129,32⟩ (by kernel_rfl)) (l_law_129 d) ⟨129,12,129,18⟩ ⟨129,8,130,77⟩) lNil)
lNil ⟨128,4,130,77⟩) (lCons (sAsg "_law_found" 11 (eCall "put" 28 (rCons (eVar "_law_tree" 5 ⟨131,21,131,30⟩ (by kernel_rfl)) (rCons (eVar "_law_name" 6 ⟨131,32,131,41⟩ (by kernel_rfl)) (rCons (eVar "_law_value" 10 ⟨131,43,131,53⟩ (by kernel_rfl)) rNil))) ⟨131,17,131,20⟩ ⟨131,17,131,54⟩ (by kernel_rfl)) ⟨131,4,131,14⟩ ⟨131,4,131,54⟩ (by kernel_rfl)) (lCons (sIte false (eNot (eCall "_law_put_right" 75 (rCons (eVar "_law_tree" 5 ⟨132,26,132,35⟩ (by kernel_rfl)) (rCons (eVar "_law_found" 11 ⟨132,37,132,47⟩ (by kernel_rfl)) (rCons (eVar "_law_name" 6 ⟨132,49,132,58⟩ (by kernel_rfl)) (rCons (eVar "_law_value" 10 ⟨132,60,132,70⟩ (by kernel_rfl)) rNil)))) ⟨132,11,132,25⟩ ⟨132,11,132,71⟩ (by kernel_rfl)) ⟨132,7,132,71⟩)
(lCons (sRet (eBool false 0 ⟨133,15,133,20⟩) ⟨133,8,133,20⟩) lNil)
lNil ⟨132,4,133,20⟩) (lCons (sRet (eCall "_law_put_right" 75 (rCons (eVar "_law_tree" 5 ⟨134,26,134,35⟩ (by kernel_rfl)) (rCons (eCall "put" 28 (rCons (eVar "_law_tree" 5 ⟨134,41,134,50⟩ (by kernel_rfl)) (rCons (eStr "other" z_other 0 ⟨134,52,134,59⟩ z_other_e z_other_k) (rCons (eVar "_law_value" 10 ⟨134,61,134,71⟩ (by kernel_rfl)) rNil))) ⟨134,37,134,40⟩ ⟨134,37,134,72⟩ (by kernel_rfl)) (rCons (eStr "other" z_other 0 ⟨134,74,134,81⟩ z_other_e z_other_k) (rCons (eVar "_law_value" 10 ⟨134,83,134,93⟩ (by kernel_rfl)) rNil)))) ⟨134,11,134,25⟩ ⟨134,11,134,94⟩ (by kernel_rfl)) ⟨134,4,134,94⟩) lNil)))))))))))))))
theorem b_law_x (d : Nat) : (b_law d).xs = fd_law.st := by kernel_rfl
end Mine.L03
end

section
open PySem
set_option autoImplicit false
namespace Mine
open Mine.L03
set_option genSizeOf false in
set_option genInjectivity false in
inductive Tree where
  | num (i : Int)
  | name (x : List Nat)
  | fn (x : List Nat) (b : Tree)
  | call (f a : Tree)
  | plus (a b : Tree)
  | less (a b : Tree)
  | ite (c a b : Tree)
  | lt (x : List Nat) (e b : Tree)
noncomputable def tv (t : Tree) : V := Tree.rec (fun i => .tup [.str z_num, .int i]) (fun x => .tup [.str z_name, .str x]) (fun x _ b => .tup [.str z_fun, .str x, b]) (fun _ _ f a => .tup [.str z_call, f, a]) (fun _ _ a b => .tup [.str z_plus, a, b]) (fun _ _ a b => .tup [.str z_less, a, b])
  (fun _ _ _ c a b => .tup [.str z_if, c, a, b]) (fun x _ _ e b => .tup [.str z_let, .str x, e, b]) t
end Mine
end

section
open PySem
set_option autoImplicit false
set_option maxRecDepth 100000
namespace Mine
open Mine.L03
noncomputable def pl (t : Mine.Tree) (n : List Nat) : List V := Tree.casesOn t (fun _ => []) (fun _ => []) (fun x _ => Bool.casesOn (x == n) [.int 2] []) (fun _ _ => [.int 2, .int 1]) (fun _ _ => [.int 2, .int 1]) (fun _ _ => [.int 2, .int 1]) (fun _ _ _ => [.int 3, .int 2, .int 1]) (fun x _ _ => Bool.casesOn (x == n) [.int 3, .int 2] [.int 2])
theorem ok_places (d : Nat) (t : Mine.Tree) (n : List Nat) : CallOK G (d + 1) 21 [tv t, .str n] (.own (pl t n)) := by
  cases t with
  | num i => exact call_go (n := 0) (tp := []) (b_open_places d) rfl (b_open_places_x d) rfl (by kernel_rfl) (P := True) (by kernel_rfl) trivial
  | name x => exact call_go (n := 0) (tp := []) (b_open_places d) rfl (b_open_places_x d) rfl (by kernel_rfl) (P := True) (by kernel_rfl) trivial
  | fn x b =>
    unfold pl; dsimp only
    cases h : x == n with
    | true => exact call_go (n := 0) (tp := [.b true]) (b_open_places d) rfl (b_open_places_x d) rfl (by kernel_rfl) (P := (x == n) = true ∧ True) (by kernel_rfl) ⟨h, trivial⟩
    | false => exact call_go (n := 0) (tp := [.b false]) (b_open_places d) rfl (b_open_places_x d) rfl (by kernel_rfl) (P := (x == n) = false ∧ True) (by kernel_rfl) ⟨h, trivial⟩
  | call f a => exact call_go (n := 0) (tp := []) (b_open_places d) rfl (b_open_places_x d) rfl (by kernel_rfl) (P := (1 ≤ 1000000 ∧ 3 ≤ 1000000) ∧ True) (by kernel_rfl) (by decide)
  | plus a b => exact call_go (n := 0) (tp := []) (b_open_places d) rfl (b_open_places_x d) rfl (by kernel_rfl) (P := (1 ≤ 1000000 ∧ 3 ≤ 1000000) ∧ True) (by kernel_rfl) (by decide)
  | less a b => exact call_go (n := 0) (tp := []) (b_open_places d) rfl (b_open_places_x d) rfl (by kernel_rfl) (P := (1 ≤ 1000000 ∧ 3 ≤ 1000000) ∧ True) (by kernel_rfl) (by decide)
  | ite c a b => exact call_go (n := 0) (tp := []) (b_open_places d) rfl (b_open_places_x d) rfl (by kernel_rfl) (P := (1 ≤ 1000000 ∧ 4 ≤ 1000000) ∧ True) (by kernel_rfl) (by decide)
  | lt x e b =>
    unfold pl; dsimp only
    cases h : x == n with
    | true => exact call_go (n := 0) (tp := [.b true]) (b_open_places d) rfl (b_open_places_x d) rfl (by kernel_rfl) (P := (x == n) = true ∧ True) (by kernel_rfl) ⟨h, trivial⟩
    | false => exact call_go (n := 0) (tp := [.b false]) (b_open_places d) rfl (b_open_places_x d) rfl (by kernel_rfl) (P := (x == n) = false ∧ True) (by kernel_rfl) ⟨h, trivial⟩

noncomputable def sub (n : List Nat) (v : V) (t : Mine.Tree) : V := Tree.rec (fun i => tv (.num i)) (fun x => Bool.casesOn (x == n) (tv (.name x)) v) (fun x b s => .tup [.str z_fun, .str x, Bool.casesOn (x == n) s (tv b)]) (fun _ _ f a => .tup [.str z_call, f, a]) (fun _ _ a b => .tup [.str z_plus, a, b]) (fun _ _ a b => .tup [.str z_less, a, b])
  (fun _ _ _ c a b => .tup [.str z_if, c, a, b]) (fun x _ b e s => .tup [.str z_let, .str x, e, Bool.casesOn (x == n) s (tv b)]) t
noncomputable abbrev pst (t v : V) (n : List Nat) (K M : List V) (x5 x6 x7 x8 x9 : Option O) : Loc := [some (.val t), some (.val (.str n)), some (.val v), some (.own K), some (.own M), x5, x6, x7, x8, x9]
abbrev PW (d : Nat) (ρ : Loc) (Φ : Fl → Loc → Prop) : Prop := WhP (c_put_17 d) (l_put_17 d) ρ Φ
noncomputable def sz (t : Mine.Tree) : Nat := Tree.rec (fun _ => 1) (fun _ => 1) (fun _ _ b => b + 1) (fun _ _ a b => a + b + 1) (fun _ _ a b => a + b + 1) (fun _ _ a b => a + b + 1) (fun _ _ _ a b c => a + b + c + 1) (fun _ _ _ a b => a + b + 1) t

section
variable {d : Nat} {T v : V} {n : List Nat} {x5 x6 x7 x8 x9 : Option O} {Φ : Fl → Loc → Prop}
theorem put_num {i : Int} {K M : List V} (hM : M.length < room) (k : ∀ x5 x6 x7 x8 x9, PW (d + 1) (pst T v n K (tv (.num i) :: M) x5 x6 x7 x8 x9) Φ) : PW (d + 1) (pst T v n (.tup [tv (.num i), .bool false] :: K) M x5 x6 x7 x8 x9) Φ :=
  whp_go false (tp := [.r (.own (pl (.num i) n)), .b false]) (ρ' := pst T v n K (tv (.num i) :: M) (some (.val (tv (.num i)))) (some (.val (.bool false))) (some (.own (pl (.num i) n))) x8 x9) (by kernel_rfl) (P := M.length < room ∧ false = false ∧ CallOK G (d + 1) 21 [tv (.num i), .str n] (.own (pl (.num i) n)) ∧ True) (by kernel_rfl) ⟨hM, rfl, ok_places d _ _, trivial⟩ (k _ _ _ _ _)
theorem put_name1 {x : List Nat} {K M : List V} (h : (x == n) = true) (hM : M.length < room) (k : ∀ x5 x6 x7 x8 x9, PW (d + 1) (pst T v n K (v :: M) x5 x6 x7 x8 x9) Φ) : PW (d + 1) (pst T v n (.tup [tv (.name x), .bool false] :: K) M x5 x6 x7 x8 x9) Φ :=
  whp_go false (tp := [.r (.own (pl (.name x) n)), .b true]) (ρ' := pst T v n K (v :: M) (some (.val (tv (.name x)))) (some (.val (.bool false))) (some (.own (pl (.name x) n))) x8 x9) (by kernel_rfl) (P := M.length < room ∧ (x == n) = true ∧ CallOK G (d + 1) 21 [tv (.name x), .str n] (.own (pl (.name x) n)) ∧ True) (by kernel_rfl) ⟨hM, h, ok_places d _ _, trivial⟩ (k _ _ _ _ _)
theorem put_name0 {x : List Nat} {K M : List V} (h : (x == n) = false) (hM : M.length < room) (k : ∀ x5 x6 x7 x8 x9, PW (d + 1) (pst T v n K (tv (.name x) :: M) x5 x6 x7 x8 x9) Φ) : PW (d + 1) (pst T v n (.tup [tv (.name x), .bool false] :: K) M x5 x6 x7 x8 x9) Φ :=
  whp_go false (tp := [.r (.own (pl (.name x) n)), .b false]) (ρ' := pst T v n K (tv (.name x) :: M) (some (.val (tv (.name x)))) (some (.val (.bool false))) (some (.own (pl (.name x) n))) x8 x9) (by kernel_rfl) (P := M.length < room ∧ (x == n) = false ∧ CallOK G (d + 1) 21 [tv (.name x), .str n] (.own (pl (.name x) n)) ∧ True) (by kernel_rfl) ⟨hM, h, ok_places d _ _, trivial⟩ (k _ _ _ _ _)
theorem put_fn1 {x : List Nat} {b : Mine.Tree} {K M : List V} (h : (x == n) = true) (hM : M.length < room) (k : ∀ x5 x6 x7 x8 x9, PW (d + 1) (pst T v n K (tv (.fn x b) :: M) x5 x6 x7 x8 x9) Φ) : PW (d + 1) (pst T v n (.tup [tv (.fn x b), .bool false] :: K) M x5 x6 x7 x8 x9) Φ :=
  have hp : CallOK G (d + 1) 21 [tv (.fn x b), .str n] (.own []) := by have := ok_places d (.fn x b) n; unfold pl at this; dsimp only at this; rw [h] at this; exact this
  whp_go false (tp := [.r (.own []), .b false]) (ρ' := pst T v n K (tv (.fn x b) :: M) (some (.val (tv (.fn x b)))) (some (.val (.bool false))) (some (.own [])) x8 x9) (by kernel_rfl) (P := M.length < room ∧ false = false ∧ CallOK G (d + 1) 21 [tv (.fn x b), .str n] (.own []) ∧ True) (by kernel_rfl) ⟨hM, rfl, hp, trivial⟩ (k _ _ _ _ _)
theorem push_fn0 {x : List Nat} {b : Mine.Tree} {K M : List V} (h : (x == n) = false) (hK : K.length + 4 < room) (k : ∀ x5 x6 x7 x8 x9, PW (d + 1) (pst T v n (.tup [tv b, .bool false] :: (.tup [tv (.fn x b), .bool true] :: K)) M x5 x6 x7 x8 x9) Φ) : PW (d + 1) (pst T v n (.tup [tv (.fn x b), .bool false] :: K) M x5 x6 x7 x8 x9) Φ :=
  have hp : CallOK G (d + 1) 21 [tv (.fn x b), .str n] (.own [.int 2]) := by have := ok_places d (.fn x b) n; unfold pl at this; dsimp only at this; rw [h] at this; exact this
  have hf : ForOK G (d + 1) fi_put (.Name "place" ⟨31,16,31,21⟩) (l_put_31 (d + 1)).xs [.int 2] (pst T v n (.tup [tv (.fn x b), .bool true] :: K) M (some (.val (tv (.fn x b)))) (some (.val (.bool false))) (some (.val (.lst [.int 2]))) x8 x9) .next (pst T v n (.tup [tv b, .bool false] :: (.tup [tv (.fn x b), .bool true] :: K)) M (some (.val (tv (.fn x b)))) (some (.val (.bool false))) (some (.val (.lst [.int 2]))) x8 (some (.val (.int 2)))) :=
    (for_go (i := 9) (v := .int 2) (l := []) (ρ := (pst T v n (.tup [tv (.fn x b), .bool true] :: K) M (some (.val (tv (.fn x b)))) (some (.val (.bool false))) (some (.val (.lst [.int 2]))) x8 x9)) (ρ' := (pst T v n (.tup [tv b, .bool false] :: (.tup [tv (.fn x b), .bool true] :: K)) M (some (.val (tv (.fn x b)))) (some (.val (.bool false))) (some (.val (.lst [.int 2]))) x8 (some (.val (.int 2))))) (tp := []) (by kernel_rfl) (by kernel_rfl) (P := (((.tup [tv (.fn x b), .bool true] :: K) : List V).length < room) ∧ True) (by kernel_rfl) ⟨by simp only [List.length_cons]; omega, trivial⟩ for_nil)
  whp_go false (tp := [.r (.own [.int 2]), .b false, .l .next (pst T v n (.tup [tv b, .bool false] :: (.tup [tv (.fn x b), .bool true] :: K)) M (some (.val (tv (.fn x b)))) (some (.val (.bool false))) (some (.val (.lst [.int 2]))) x8 (some (.val (.int 2))))]) (ρ' := (pst T v n (.tup [tv b, .bool false] :: (.tup [tv (.fn x b), .bool true] :: K)) M (some (.val (tv (.fn x b)))) (some (.val (.bool false))) (some (.val (.lst [.int 2]))) x8 (some (.val (.int 2))))) (by kernel_rfl) (P := ForOK G (d + 1) fi_put (.Name "place" ⟨31,16,31,21⟩) (l_put_31 (d + 1)).xs [.int 2] (pst T v n (.tup [tv (.fn x b), .bool true] :: K) M (some (.val (tv (.fn x b)))) (some (.val (.bool false))) (some (.val (.lst [.int 2]))) x8 x9) .next (pst T v n (.tup [tv b, .bool false] :: (.tup [tv (.fn x b), .bool true] :: K)) M (some (.val (tv (.fn x b)))) (some (.val (.bool false))) (some (.val (.lst [.int 2]))) x8 (some (.val (.int 2)))) ∧ (K.length < room) ∧ false = false ∧ CallOK G (d + 1) 21 [tv (.fn x b), .str n] (.own [.int 2]) ∧ True) (by kernel_rfl) ⟨hf, by omega, rfl, hp, trivial⟩ (k _ _ _ _ _)
theorem pop_fn0 {x : List Nat} {b : Mine.Tree} {K M : List V} {s0 : V} (h : (x == n) = false) (hM : M.length < room) (k : ∀ x5 x6 x7 x8 x9, PW (d + 1) (pst T v n K (.tup [.str z_fun, .str x, s0] :: M) x5 x6 x7 x8 x9) Φ) : PW (d + 1) (pst T v n (.tup [tv (.fn x b), .bool true] :: K) (s0 :: M) x5 x6 x7 x8 x9) Φ :=
  have hp : CallOK G (d + 1) 21 [tv (.fn x b), .str n] (.own [.int 2]) := by have := ok_places d (.fn x b) n; unfold pl at this; dsimp only at this; rw [h] at this; exact this
  have hf : ForOK G (d + 1) fi_put (.Name "place" ⟨22,16,22,21⟩) (l_put_22 (d + 1)).xs [.int 2] (pst T v n K (s0 :: M) (some (.val (tv (.fn x b)))) (some (.val (.bool true))) (some (.val (.lst [.int 2]))) (some (.own [tv b, .str x, .str z_fun])) x9) .next (pst T v n K M (some (.val (tv (.fn x b)))) (some (.val (.bool true))) (some (.val (.lst [.int 2]))) (some (.own [s0, .str x, .str z_fun])) (some (.val (.int 2)))) :=
    (for_go (i := 9) (v := .int 2) (l := []) (ρ := (pst T v n K (s0 :: M) (some (.val (tv (.fn x b)))) (some (.val (.bool true))) (some (.val (.lst [.int 2]))) (some (.own [tv b, .str x, .str z_fun])) x9)) (ρ' := (pst T v n K M (some (.val (tv (.fn x b)))) (some (.val (.bool true))) (some (.val (.lst [.int 2]))) (some (.own [s0, .str x, .str z_fun])) (some (.val (.int 2))))) (tp := []) (by kernel_rfl) (by kernel_rfl) (P := True) (by kernel_rfl) trivial for_nil)
  whp_go false (tp := [.r (.own [.int 2]), .l .next (pst T v n K M (some (.val (tv (.fn x b)))) (some (.val (.bool true))) (some (.val (.lst [.int 2]))) (some (.own [s0, .str x, .str z_fun])) (some (.val (.int 2))))]) (ρ' := (pst T v n K (.tup [.str z_fun, .str x, s0] :: M) (some (.val (tv (.fn x b)))) (some (.val (.bool true))) (some (.val (.lst [.int 2]))) (some (.own [s0, .str x, .str z_fun])) (some (.val (.int 2))))) (by kernel_rfl) (P := (M.length < room) ∧ ForOK G (d + 1) fi_put (.Name "place" ⟨22,16,22,21⟩) (l_put_22 (d + 1)).xs [.int 2] (pst T v n K (s0 :: M) (some (.val (tv (.fn x b)))) (some (.val (.bool true))) (some (.val (.lst [.int 2]))) (some (.own [tv b, .str x, .str z_fun])) x9) .next (pst T v n K M (some (.val (tv (.fn x b)))) (some (.val (.bool true))) (some (.val (.lst [.int 2]))) (some (.own [s0, .str x, .str z_fun])) (some (.val (.int 2)))) ∧ CallOK G (d + 1) 21 [tv (.fn x b), .str n] (.own [.int 2]) ∧ True) (by kernel_rfl) ⟨hM, hf, hp, trivial⟩ (k _ _ _ _ _)
theorem push_call {a b : Mine.Tree} {K M : List V} (hK : K.length + 4 < room) (k : ∀ x5 x6 x7 x8 x9, PW (d + 1) (pst T v n (.tup [tv a, .bool false] :: (.tup [tv b, .bool false] :: (.tup [tv (.call a b), .bool true] :: K))) M x5 x6 x7 x8 x9) Φ) : PW (d + 1) (pst T v n (.tup [tv (.call a b), .bool false] :: K) M x5 x6 x7 x8 x9) Φ :=
  have hp : CallOK G (d + 1) 21 [tv (.call a b), .str n] (.own [.int 2, .int 1]) := ok_places d (.call a b) n
  have hf : ForOK G (d + 1) fi_put (.Name "place" ⟨31,16,31,21⟩) (l_put_31 (d + 1)).xs [.int 2, .int 1] (pst T v n (.tup [tv (.call a b), .bool true] :: K) M (some (.val (tv (.call a b)))) (some (.val (.bool false))) (some (.val (.lst [.int 1, .int 2]))) x8 x9) .next (pst T v n (.tup [tv a, .bool false] :: (.tup [tv b, .bool false] :: (.tup [tv (.call a b), .bool true] :: K))) M (some (.val (tv (.call a b)))) (some (.val (.bool false))) (some (.val (.lst [.int 1, .int 2]))) x8 (some (.val (.int 1)))) :=
    (for_go (i := 9) (v := .int 2) (l := [.int 1]) (ρ := (pst T v n (.tup [tv (.call a b), .bool true] :: K) M (some (.val (tv (.call a b)))) (some (.val (.bool false))) (some (.val (.lst [.int 1, .int 2]))) x8 x9)) (ρ' := (pst T v n (.tup [tv b, .bool false] :: (.tup [tv (.call a b), .bool true] :: K)) M (some (.val (tv (.call a b)))) (some (.val (.bool false))) (some (.val (.lst [.int 1, .int 2]))) x8 (some (.val (.int 2))))) (tp := []) (by kernel_rfl) (by kernel_rfl) (P := (((.tup [tv (.call a b), .bool true] :: K) : List V).length < room) ∧ True) (by kernel_rfl) ⟨by simp only [List.length_cons]; omega, trivial⟩ (for_go (i := 9) (v := .int 1) (l := []) (ρ := (pst T v n (.tup [tv b, .bool false] :: (.tup [tv (.call a b), .bool true] :: K)) M (some (.val (tv (.call a b)))) (some (.val (.bool false))) (some (.val (.lst [.int 1, .int 2]))) x8 (some (.val (.int 2))))) (ρ' := (pst T v n (.tup [tv a, .bool false] :: (.tup [tv b, .bool false] :: (.tup [tv (.call a b), .bool true] :: K))) M (some (.val (tv (.call a b)))) (some (.val (.bool false))) (some (.val (.lst [.int 1, .int 2]))) x8 (some (.val (.int 1))))) (tp := []) (by kernel_rfl) (by kernel_rfl) (P := (((.tup [tv b, .bool false] :: (.tup [tv (.call a b), .bool true] :: K)) : List V).length < room) ∧ True) (by kernel_rfl) ⟨by simp only [List.length_cons]; omega, trivial⟩ for_nil))
  whp_go false (tp := [.r (.own [.int 2, .int 1]), .b false, .l .next (pst T v n (.tup [tv a, .bool false] :: (.tup [tv b, .bool false] :: (.tup [tv (.call a b), .bool true] :: K))) M (some (.val (tv (.call a b)))) (some (.val (.bool false))) (some (.val (.lst [.int 1, .int 2]))) x8 (some (.val (.int 1))))]) (ρ' := (pst T v n (.tup [tv a, .bool false] :: (.tup [tv b, .bool false] :: (.tup [tv (.call a b), .bool true] :: K))) M (some (.val (tv (.call a b)))) (some (.val (.bool false))) (some (.val (.lst [.int 1, .int 2]))) x8 (some (.val (.int 1))))) (by kernel_rfl) (P := ForOK G (d + 1) fi_put (.Name "place" ⟨31,16,31,21⟩) (l_put_31 (d + 1)).xs [.int 2, .int 1] (pst T v n (.tup [tv (.call a b), .bool true] :: K) M (some (.val (tv (.call a b)))) (some (.val (.bool false))) (some (.val (.lst [.int 1, .int 2]))) x8 x9) .next (pst T v n (.tup [tv a, .bool false] :: (.tup [tv b, .bool false] :: (.tup [tv (.call a b), .bool true] :: K))) M (some (.val (tv (.call a b)))) (some (.val (.bool false))) (some (.val (.lst [.int 1, .int 2]))) x8 (some (.val (.int 1)))) ∧ (K.length < room) ∧ false = false ∧ CallOK G (d + 1) 21 [tv (.call a b), .str n] (.own [.int 2, .int 1]) ∧ True) (by kernel_rfl) ⟨hf, by omega, rfl, hp, trivial⟩ (k _ _ _ _ _)
theorem pop_call {a b : Mine.Tree} {K M : List V} {s0 s1 : V} (hM : M.length < room) (k : ∀ x5 x6 x7 x8 x9, PW (d + 1) (pst T v n K (.tup [.str z_call, s0, s1] :: M) x5 x6 x7 x8 x9) Φ) : PW (d + 1) (pst T v n (.tup [tv (.call a b), .bool true] :: K) (s1 :: (s0 :: M)) x5 x6 x7 x8 x9) Φ :=
  have hp : CallOK G (d + 1) 21 [tv (.call a b), .str n] (.own [.int 2, .int 1]) := ok_places d (.call a b) n
  have hf : ForOK G (d + 1) fi_put (.Name "place" ⟨22,16,22,21⟩) (l_put_22 (d + 1)).xs [.int 2, .int 1] (pst T v n K (s1 :: (s0 :: M)) (some (.val (tv (.call a b)))) (some (.val (.bool true))) (some (.val (.lst [.int 1, .int 2]))) (some (.own [tv b, tv a, .str z_call])) x9) .next (pst T v n K M (some (.val (tv (.call a b)))) (some (.val (.bool true))) (some (.val (.lst [.int 1, .int 2]))) (some (.own [s1, s0, .str z_call])) (some (.val (.int 1)))) :=
    (for_go (i := 9) (v := .int 2) (l := [.int 1]) (ρ := (pst T v n K (s1 :: (s0 :: M)) (some (.val (tv (.call a b)))) (some (.val (.bool true))) (some (.val (.lst [.int 1, .int 2]))) (some (.own [tv b, tv a, .str z_call])) x9)) (ρ' := (pst T v n K (s0 :: M) (some (.val (tv (.call a b)))) (some (.val (.bool true))) (some (.val (.lst [.int 1, .int 2]))) (some (.own [s1, tv a, .str z_call])) (some (.val (.int 2))))) (tp := []) (by kernel_rfl) (by kernel_rfl) (P := True) (by kernel_rfl) trivial (for_go (i := 9) (v := .int 1) (l := []) (ρ := (pst T v n K (s0 :: M) (some (.val (tv (.call a b)))) (some (.val (.bool true))) (some (.val (.lst [.int 1, .int 2]))) (some (.own [s1, tv a, .str z_call])) (some (.val (.int 2))))) (ρ' := (pst T v n K M (some (.val (tv (.call a b)))) (some (.val (.bool true))) (some (.val (.lst [.int 1, .int 2]))) (some (.own [s1, s0, .str z_call])) (some (.val (.int 1))))) (tp := []) (by kernel_rfl) (by kernel_rfl) (P := True) (by kernel_rfl) trivial for_nil))
  whp_go false (tp := [.r (.own [.int 2, .int 1]), .l .next (pst T v n K M (some (.val (tv (.call a b)))) (some (.val (.bool true))) (some (.val (.lst [.int 1, .int 2]))) (some (.own [s1, s0, .str z_call])) (some (.val (.int 1))))]) (ρ' := (pst T v n K (.tup [.str z_call, s0, s1] :: M) (some (.val (tv (.call a b)))) (some (.val (.bool true))) (some (.val (.lst [.int 1, .int 2]))) (some (.own [s1, s0, .str z_call])) (some (.val (.int 1))))) (by kernel_rfl) (P := (M.length < room) ∧ ForOK G (d + 1) fi_put (.Name "place" ⟨22,16,22,21⟩) (l_put_22 (d + 1)).xs [.int 2, .int 1] (pst T v n K (s1 :: (s0 :: M)) (some (.val (tv (.call a b)))) (some (.val (.bool true))) (some (.val (.lst [.int 1, .int 2]))) (some (.own [tv b, tv a, .str z_call])) x9) .next (pst T v n K M (some (.val (tv (.call a b)))) (some (.val (.bool true))) (some (.val (.lst [.int 1, .int 2]))) (some (.own [s1, s0, .str z_call])) (some (.val (.int 1)))) ∧ CallOK G (d + 1) 21 [tv (.call a b), .str n] (.own [.int 2, .int 1]) ∧ True) (by kernel_rfl) ⟨hM, hf, hp, trivial⟩ (k _ _ _ _ _)
theorem push_plus {a b : Mine.Tree} {K M : List V} (hK : K.length + 4 < room) (k : ∀ x5 x6 x7 x8 x9, PW (d + 1) (pst T v n (.tup [tv a, .bool false] :: (.tup [tv b, .bool false] :: (.tup [tv (.plus a b), .bool true] :: K))) M x5 x6 x7 x8 x9) Φ) : PW (d + 1) (pst T v n (.tup [tv (.plus a b), .bool false] :: K) M x5 x6 x7 x8 x9) Φ :=
  have hp : CallOK G (d + 1) 21 [tv (.plus a b), .str n] (.own [.int 2, .int 1]) := ok_places d (.plus a b) n
  have hf : ForOK G (d + 1) fi_put (.Name "place" ⟨31,16,31,21⟩) (l_put_31 (d + 1)).xs [.int 2, .int 1] (pst T v n (.tup [tv (.plus a b), .bool true] :: K) M (some (.val (tv (.plus a b)))) (some (.val (.bool false))) (some (.val (.lst [.int 1, .int 2]))) x8 x9) .next (pst T v n (.tup [tv a, .bool false] :: (.tup [tv b, .bool false] :: (.tup [tv (.plus a b), .bool true] :: K))) M (some (.val (tv (.plus a b)))) (some (.val (.bool false))) (some (.val (.lst [.int 1, .int 2]))) x8 (some (.val (.int 1)))) :=
    (for_go (i := 9) (v := .int 2) (l := [.int 1]) (ρ := (pst T v n (.tup [tv (.plus a b), .bool true] :: K) M (some (.val (tv (.plus a b)))) (some (.val (.bool false))) (some (.val (.lst [.int 1, .int 2]))) x8 x9)) (ρ' := (pst T v n (.tup [tv b, .bool false] :: (.tup [tv (.plus a b), .bool true] :: K)) M (some (.val (tv (.plus a b)))) (some (.val (.bool false))) (some (.val (.lst [.int 1, .int 2]))) x8 (some (.val (.int 2))))) (tp := []) (by kernel_rfl) (by kernel_rfl) (P := (((.tup [tv (.plus a b), .bool true] :: K) : List V).length < room) ∧ True) (by kernel_rfl) ⟨by simp only [List.length_cons]; omega, trivial⟩ (for_go (i := 9) (v := .int 1) (l := []) (ρ := (pst T v n (.tup [tv b, .bool false] :: (.tup [tv (.plus a b), .bool true] :: K)) M (some (.val (tv (.plus a b)))) (some (.val (.bool false))) (some (.val (.lst [.int 1, .int 2]))) x8 (some (.val (.int 2))))) (ρ' := (pst T v n (.tup [tv a, .bool false] :: (.tup [tv b, .bool false] :: (.tup [tv (.plus a b), .bool true] :: K))) M (some (.val (tv (.plus a b)))) (some (.val (.bool false))) (some (.val (.lst [.int 1, .int 2]))) x8 (some (.val (.int 1))))) (tp := []) (by kernel_rfl) (by kernel_rfl) (P := (((.tup [tv b, .bool false] :: (.tup [tv (.plus a b), .bool true] :: K)) : List V).length < room) ∧ True) (by kernel_rfl) ⟨by simp only [List.length_cons]; omega, trivial⟩ for_nil))
  whp_go false (tp := [.r (.own [.int 2, .int 1]), .b false, .l .next (pst T v n (.tup [tv a, .bool false] :: (.tup [tv b, .bool false] :: (.tup [tv (.plus a b), .bool true] :: K))) M (some (.val (tv (.plus a b)))) (some (.val (.bool false))) (some (.val (.lst [.int 1, .int 2]))) x8 (some (.val (.int 1))))]) (ρ' := (pst T v n (.tup [tv a, .bool false] :: (.tup [tv b, .bool false] :: (.tup [tv (.plus a b), .bool true] :: K))) M (some (.val (tv (.plus a b)))) (some (.val (.bool false))) (some (.val (.lst [.int 1, .int 2]))) x8 (some (.val (.int 1))))) (by kernel_rfl) (P := ForOK G (d + 1) fi_put (.Name "place" ⟨31,16,31,21⟩) (l_put_31 (d + 1)).xs [.int 2, .int 1] (pst T v n (.tup [tv (.plus a b), .bool true] :: K) M (some (.val (tv (.plus a b)))) (some (.val (.bool false))) (some (.val (.lst [.int 1, .int 2]))) x8 x9) .next (pst T v n (.tup [tv a, .bool false] :: (.tup [tv b, .bool false] :: (.tup [tv (.plus a b), .bool true] :: K))) M (some (.val (tv (.plus a b)))) (some (.val (.bool false))) (some (.val (.lst [.int 1, .int 2]))) x8 (some (.val (.int 1)))) ∧ (K.length < room) ∧ false = false ∧ CallOK G (d + 1) 21 [tv (.plus a b), .str n] (.own [.int 2, .int 1]) ∧ True) (by kernel_rfl) ⟨hf, by omega, rfl, hp, trivial⟩ (k _ _ _ _ _)
theorem pop_plus {a b : Mine.Tree} {K M : List V} {s0 s1 : V} (hM : M.length < room) (k : ∀ x5 x6 x7 x8 x9, PW (d + 1) (pst T v n K (.tup [.str z_plus, s0, s1] :: M) x5 x6 x7 x8 x9) Φ) : PW (d + 1) (pst T v n (.tup [tv (.plus a b), .bool true] :: K) (s1 :: (s0 :: M)) x5 x6 x7 x8 x9) Φ :=
  have hp : CallOK G (d + 1) 21 [tv (.plus a b), .str n] (.own [.int 2, .int 1]) := ok_places d (.plus a b) n
  have hf : ForOK G (d + 1) fi_put (.Name "place" ⟨22,16,22,21⟩) (l_put_22 (d + 1)).xs [.int 2, .int 1] (pst T v n K (s1 :: (s0 :: M)) (some (.val (tv (.plus a b)))) (some (.val (.bool true))) (some (.val (.lst [.int 1, .int 2]))) (some (.own [tv b, tv a, .str z_plus])) x9) .next (pst T v n K M (some (.val (tv (.plus a b)))) (some (.val (.bool true))) (some (.val (.lst [.int 1, .int 2]))) (some (.own [s1, s0, .str z_plus])) (some (.val (.int 1)))) :=
    (for_go (i := 9) (v := .int 2) (l := [.int 1]) (ρ := (pst T v n K (s1 :: (s0 :: M)) (some (.val (tv (.plus a b)))) (some (.val (.bool true))) (some (.val (.lst [.int 1, .int 2]))) (some (.own [tv b, tv a, .str z_plus])) x9)) (ρ' := (pst T v n K (s0 :: M) (some (.val (tv (.plus a b)))) (some (.val (.bool true))) (some (.val (.lst [.int 1, .int 2]))) (some (.own [s1, tv a, .str z_plus])) (some (.val (.int 2))))) (tp := []) (by kernel_rfl) (by kernel_rfl) (P := True) (by kernel_rfl) trivial (for_go (i := 9) (v := .int 1) (l := []) (ρ := (pst T v n K (s0 :: M) (some (.val (tv (.plus a b)))) (some (.val (.bool true))) (some (.val (.lst [.int 1, .int 2]))) (some (.own [s1, tv a, .str z_plus])) (some (.val (.int 2))))) (ρ' := (pst T v n K M (some (.val (tv (.plus a b)))) (some (.val (.bool true))) (some (.val (.lst [.int 1, .int 2]))) (some (.own [s1, s0, .str z_plus])) (some (.val (.int 1))))) (tp := []) (by kernel_rfl) (by kernel_rfl) (P := True) (by kernel_rfl) trivial for_nil))
  whp_go false (tp := [.r (.own [.int 2, .int 1]), .l .next (pst T v n K M (some (.val (tv (.plus a b)))) (some (.val (.bool true))) (some (.val (.lst [.int 1, .int 2]))) (some (.own [s1, s0, .str z_plus])) (some (.val (.int 1))))]) (ρ' := (pst T v n K (.tup [.str z_plus, s0, s1] :: M) (some (.val (tv (.plus a b)))) (some (.val (.bool true))) (some (.val (.lst [.int 1, .int 2]))) (some (.own [s1, s0, .str z_plus])) (some (.val (.int 1))))) (by kernel_rfl) (P := (M.length < room) ∧ ForOK G (d + 1) fi_put (.Name "place" ⟨22,16,22,21⟩) (l_put_22 (d + 1)).xs [.int 2, .int 1] (pst T v n K (s1 :: (s0 :: M)) (some (.val (tv (.plus a b)))) (some (.val (.bool true))) (some (.val (.lst [.int 1, .int 2]))) (some (.own [tv b, tv a, .str z_plus])) x9) .next (pst T v n K M (some (.val (tv (.plus a b)))) (some (.val (.bool true))) (some (.val (.lst [.int 1, .int 2]))) (some (.own [s1, s0, .str z_plus])) (some (.val (.int 1)))) ∧ CallOK G (d + 1) 21 [tv (.plus a b), .str n] (.own [.int 2, .int 1]) ∧ True) (by kernel_rfl) ⟨hM, hf, hp, trivial⟩ (k _ _ _ _ _)
theorem push_less {a b : Mine.Tree} {K M : List V} (hK : K.length + 4 < room) (k : ∀ x5 x6 x7 x8 x9, PW (d + 1) (pst T v n (.tup [tv a, .bool false] :: (.tup [tv b, .bool false] :: (.tup [tv (.less a b), .bool true] :: K))) M x5 x6 x7 x8 x9) Φ) : PW (d + 1) (pst T v n (.tup [tv (.less a b), .bool false] :: K) M x5 x6 x7 x8 x9) Φ :=
  have hp : CallOK G (d + 1) 21 [tv (.less a b), .str n] (.own [.int 2, .int 1]) := ok_places d (.less a b) n
  have hf : ForOK G (d + 1) fi_put (.Name "place" ⟨31,16,31,21⟩) (l_put_31 (d + 1)).xs [.int 2, .int 1] (pst T v n (.tup [tv (.less a b), .bool true] :: K) M (some (.val (tv (.less a b)))) (some (.val (.bool false))) (some (.val (.lst [.int 1, .int 2]))) x8 x9) .next (pst T v n (.tup [tv a, .bool false] :: (.tup [tv b, .bool false] :: (.tup [tv (.less a b), .bool true] :: K))) M (some (.val (tv (.less a b)))) (some (.val (.bool false))) (some (.val (.lst [.int 1, .int 2]))) x8 (some (.val (.int 1)))) :=
    (for_go (i := 9) (v := .int 2) (l := [.int 1]) (ρ := (pst T v n (.tup [tv (.less a b), .bool true] :: K) M (some (.val (tv (.less a b)))) (some (.val (.bool false))) (some (.val (.lst [.int 1, .int 2]))) x8 x9)) (ρ' := (pst T v n (.tup [tv b, .bool false] :: (.tup [tv (.less a b), .bool true] :: K)) M (some (.val (tv (.less a b)))) (some (.val (.bool false))) (some (.val (.lst [.int 1, .int 2]))) x8 (some (.val (.int 2))))) (tp := []) (by kernel_rfl) (by kernel_rfl) (P := (((.tup [tv (.less a b), .bool true] :: K) : List V).length < room) ∧ True) (by kernel_rfl) ⟨by simp only [List.length_cons]; omega, trivial⟩ (for_go (i := 9) (v := .int 1) (l := []) (ρ := (pst T v n (.tup [tv b, .bool false] :: (.tup [tv (.less a b), .bool true] :: K)) M (some (.val (tv (.less a b)))) (some (.val (.bool false))) (some (.val (.lst [.int 1, .int 2]))) x8 (some (.val (.int 2))))) (ρ' := (pst T v n (.tup [tv a, .bool false] :: (.tup [tv b, .bool false] :: (.tup [tv (.less a b), .bool true] :: K))) M (some (.val (tv (.less a b)))) (some (.val (.bool false))) (some (.val (.lst [.int 1, .int 2]))) x8 (some (.val (.int 1))))) (tp := []) (by kernel_rfl) (by kernel_rfl) (P := (((.tup [tv b, .bool false] :: (.tup [tv (.less a b), .bool true] :: K)) : List V).length < room) ∧ True) (by kernel_rfl) ⟨by simp only [List.length_cons]; omega, trivial⟩ for_nil))
  whp_go false (tp := [.r (.own [.int 2, .int 1]), .b false, .l .next (pst T v n (.tup [tv a, .bool false] :: (.tup [tv b, .bool false] :: (.tup [tv (.less a b), .bool true] :: K))) M (some (.val (tv (.less a b)))) (some (.val (.bool false))) (some (.val (.lst [.int 1, .int 2]))) x8 (some (.val (.int 1))))]) (ρ' := (pst T v n (.tup [tv a, .bool false] :: (.tup [tv b, .bool false] :: (.tup [tv (.less a b), .bool true] :: K))) M (some (.val (tv (.less a b)))) (some (.val (.bool false))) (some (.val (.lst [.int 1, .int 2]))) x8 (some (.val (.int 1))))) (by kernel_rfl) (P := ForOK G (d + 1) fi_put (.Name "place" ⟨31,16,31,21⟩) (l_put_31 (d + 1)).xs [.int 2, .int 1] (pst T v n (.tup [tv (.less a b), .bool true] :: K) M (some (.val (tv (.less a b)))) (some (.val (.bool false))) (some (.val (.lst [.int 1, .int 2]))) x8 x9) .next (pst T v n (.tup [tv a, .bool false] :: (.tup [tv b, .bool false] :: (.tup [tv (.less a b), .bool true] :: K))) M (some (.val (tv (.less a b)))) (some (.val (.bool false))) (some (.val (.lst [.int 1, .int 2]))) x8 (some (.val (.int 1)))) ∧ (K.length < room) ∧ false = false ∧ CallOK G (d + 1) 21 [tv (.less a b), .str n] (.own [.int 2, .int 1]) ∧ True) (by kernel_rfl) ⟨hf, by omega, rfl, hp, trivial⟩ (k _ _ _ _ _)
theorem pop_less {a b : Mine.Tree} {K M : List V} {s0 s1 : V} (hM : M.length < room) (k : ∀ x5 x6 x7 x8 x9, PW (d + 1) (pst T v n K (.tup [.str z_less, s0, s1] :: M) x5 x6 x7 x8 x9) Φ) : PW (d + 1) (pst T v n (.tup [tv (.less a b), .bool true] :: K) (s1 :: (s0 :: M)) x5 x6 x7 x8 x9) Φ :=
  have hp : CallOK G (d + 1) 21 [tv (.less a b), .str n] (.own [.int 2, .int 1]) := ok_places d (.less a b) n
  have hf : ForOK G (d + 1) fi_put (.Name "place" ⟨22,16,22,21⟩) (l_put_22 (d + 1)).xs [.int 2, .int 1] (pst T v n K (s1 :: (s0 :: M)) (some (.val (tv (.less a b)))) (some (.val (.bool true))) (some (.val (.lst [.int 1, .int 2]))) (some (.own [tv b, tv a, .str z_less])) x9) .next (pst T v n K M (some (.val (tv (.less a b)))) (some (.val (.bool true))) (some (.val (.lst [.int 1, .int 2]))) (some (.own [s1, s0, .str z_less])) (some (.val (.int 1)))) :=
    (for_go (i := 9) (v := .int 2) (l := [.int 1]) (ρ := (pst T v n K (s1 :: (s0 :: M)) (some (.val (tv (.less a b)))) (some (.val (.bool true))) (some (.val (.lst [.int 1, .int 2]))) (some (.own [tv b, tv a, .str z_less])) x9)) (ρ' := (pst T v n K (s0 :: M) (some (.val (tv (.less a b)))) (some (.val (.bool true))) (some (.val (.lst [.int 1, .int 2]))) (some (.own [s1, tv a, .str z_less])) (some (.val (.int 2))))) (tp := []) (by kernel_rfl) (by kernel_rfl) (P := True) (by kernel_rfl) trivial (for_go (i := 9) (v := .int 1) (l := []) (ρ := (pst T v n K (s0 :: M) (some (.val (tv (.less a b)))) (some (.val (.bool true))) (some (.val (.lst [.int 1, .int 2]))) (some (.own [s1, tv a, .str z_less])) (some (.val (.int 2))))) (ρ' := (pst T v n K M (some (.val (tv (.less a b)))) (some (.val (.bool true))) (some (.val (.lst [.int 1, .int 2]))) (some (.own [s1, s0, .str z_less])) (some (.val (.int 1))))) (tp := []) (by kernel_rfl) (by kernel_rfl) (P := True) (by kernel_rfl) trivial for_nil))
  whp_go false (tp := [.r (.own [.int 2, .int 1]), .l .next (pst T v n K M (some (.val (tv (.less a b)))) (some (.val (.bool true))) (some (.val (.lst [.int 1, .int 2]))) (some (.own [s1, s0, .str z_less])) (some (.val (.int 1))))]) (ρ' := (pst T v n K (.tup [.str z_less, s0, s1] :: M) (some (.val (tv (.less a b)))) (some (.val (.bool true))) (some (.val (.lst [.int 1, .int 2]))) (some (.own [s1, s0, .str z_less])) (some (.val (.int 1))))) (by kernel_rfl) (P := (M.length < room) ∧ ForOK G (d + 1) fi_put (.Name "place" ⟨22,16,22,21⟩) (l_put_22 (d + 1)).xs [.int 2, .int 1] (pst T v n K (s1 :: (s0 :: M)) (some (.val (tv (.less a b)))) (some (.val (.bool true))) (some (.val (.lst [.int 1, .int 2]))) (some (.own [tv b, tv a, .str z_less])) x9) .next (pst T v n K M (some (.val (tv (.less a b)))) (some (.val (.bool true))) (some (.val (.lst [.int 1, .int 2]))) (some (.own [s1, s0, .str z_less])) (some (.val (.int 1)))) ∧ CallOK G (d + 1) 21 [tv (.less a b), .str n] (.own [.int 2, .int 1]) ∧ True) (by kernel_rfl) ⟨hM, hf, hp, trivial⟩ (k _ _ _ _ _)
theorem push_ite {c a b : Mine.Tree} {K M : List V} (hK : K.length + 4 < room) (k : ∀ x5 x6 x7 x8 x9, PW (d + 1) (pst T v n (.tup [tv c, .bool false] :: (.tup [tv a, .bool false] :: (.tup [tv b, .bool false] :: (.tup [tv (.ite c a b), .bool true] :: K)))) M x5 x6 x7 x8 x9) Φ) : PW (d + 1) (pst T v n (.tup [tv (.ite c a b), .bool false] :: K) M x5 x6 x7 x8 x9) Φ :=
  have hp : CallOK G (d + 1) 21 [tv (.ite c a b), .str n] (.own [.int 3, .int 2, .int 1]) := ok_places d (.ite c a b) n
  have hf : ForOK G (d + 1) fi_put (.Name "place" ⟨31,16,31,21⟩) (l_put_31 (d + 1)).xs [.int 3, .int 2, .int 1] (pst T v n (.tup [tv (.ite c a b), .bool true] :: K) M (some (.val (tv (.ite c a b)))) (some (.val (.bool false))) (some (.val (.lst [.int 1, .int 2, .int 3]))) x8 x9) .next (pst T v n (.tup [tv c, .bool false] :: (.tup [tv a, .bool false] :: (.tup [tv b, .bool false] :: (.tup [tv (.ite c a b), .bool true] :: K)))) M (some (.val (tv (.ite c a b)))) (some (.val (.bool false))) (some (.val (.lst [.int 1, .int 2, .int 3]))) x8 (some (.val (.int 1)))) :=
    (for_go (i := 9) (v := .int 3) (l := [.int 2, .int 1]) (ρ := (pst T v n (.tup [tv (.ite c a b), .bool true] :: K) M (some (.val (tv (.ite c a b)))) (some (.val (.bool false))) (some (.val (.lst [.int 1, .int 2, .int 3]))) x8 x9)) (ρ' := (pst T v n (.tup [tv b, .bool false] :: (.tup [tv (.ite c a b), .bool true] :: K)) M (some (.val (tv (.ite c a b)))) (some (.val (.bool false))) (some (.val (.lst [.int 1, .int 2, .int 3]))) x8 (some (.val (.int 3))))) (tp := []) (by kernel_rfl) (by kernel_rfl) (P := (((.tup [tv (.ite c a b), .bool true] :: K) : List V).length < room) ∧ True) (by kernel_rfl) ⟨by simp only [List.length_cons]; omega, trivial⟩ (for_go (i := 9) (v := .int 2) (l := [.int 1]) (ρ := (pst T v n (.tup [tv b, .bool false] :: (.tup [tv (.ite c a b), .bool true] :: K)) M (some (.val (tv (.ite c a b)))) (some (.val (.bool false))) (some (.val (.lst [.int 1, .int 2, .int 3]))) x8 (some (.val (.int 3))))) (ρ' := (pst T v n (.tup [tv a, .bool false] :: (.tup [tv b, .bool false] :: (.tup [tv (.ite c a b), .bool true] :: K))) M (some (.val (tv (.ite c a b)))) (some (.val (.bool false))) (some (.val (.lst [.int 1, .int 2, .int 3]))) x8 (some (.val (.int 2))))) (tp := []) (by kernel_rfl) (by kernel_rfl) (P := (((.tup [tv b, .bool false] :: (.tup [tv (.ite c a b), .bool true] :: K)) : List V).length < room) ∧ True) (by kernel_rfl) ⟨by simp only [List.length_cons]; omega, trivial⟩ (for_go (i := 9) (v := .int 1) (l := []) (ρ := (pst T v n (.tup [tv a, .bool false] :: (.tup [tv b, .bool false] :: (.tup [tv (.ite c a b), .bool true] :: K))) M (some (.val (tv (.ite c a b)))) (some (.val (.bool false))) (some (.val (.lst [.int 1, .int 2, .int 3]))) x8 (some (.val (.int 2))))) (ρ' := (pst T v n (.tup [tv c, .bool false] :: (.tup [tv a, .bool false] :: (.tup [tv b, .bool false] :: (.tup [tv (.ite c a b), .bool true] :: K)))) M (some (.val (tv (.ite c a b)))) (some (.val (.bool false))) (some (.val (.lst [.int 1, .int 2, .int 3]))) x8 (some (.val (.int 1))))) (tp := []) (by kernel_rfl) (by kernel_rfl) (P := (((.tup [tv a, .bool false] :: (.tup [tv b, .bool false] :: (.tup [tv (.ite c a b), .bool true] :: K))) : List V).length < room) ∧ True) (by kernel_rfl) ⟨by simp only [List.length_cons]; omega, trivial⟩ for_nil)))
  whp_go false (tp := [.r (.own [.int 3, .int 2, .int 1]), .b false, .l .next (pst T v n (.tup [tv c, .bool false] :: (.tup [tv a, .bool false] :: (.tup [tv b, .bool false] :: (.tup [tv (.ite c a b), .bool true] :: K)))) M (some (.val (tv (.ite c a b)))) (some (.val (.bool false))) (some (.val (.lst [.int 1, .int 2, .int 3]))) x8 (some (.val (.int 1))))]) (ρ' := (pst T v n (.tup [tv c, .bool false] :: (.tup [tv a, .bool false] :: (.tup [tv b, .bool false] :: (.tup [tv (.ite c a b), .bool true] :: K)))) M (some (.val (tv (.ite c a b)))) (some (.val (.bool false))) (some (.val (.lst [.int 1, .int 2, .int 3]))) x8 (some (.val (.int 1))))) (by kernel_rfl) (P := ForOK G (d + 1) fi_put (.Name "place" ⟨31,16,31,21⟩) (l_put_31 (d + 1)).xs [.int 3, .int 2, .int 1] (pst T v n (.tup [tv (.ite c a b), .bool true] :: K) M (some (.val (tv (.ite c a b)))) (some (.val (.bool false))) (some (.val (.lst [.int 1, .int 2, .int 3]))) x8 x9) .next (pst T v n (.tup [tv c, .bool false] :: (.tup [tv a, .bool false] :: (.tup [tv b, .bool false] :: (.tup [tv (.ite c a b), .bool true] :: K)))) M (some (.val (tv (.ite c a b)))) (some (.val (.bool false))) (some (.val (.lst [.int 1, .int 2, .int 3]))) x8 (some (.val (.int 1)))) ∧ (K.length < room) ∧ false = false ∧ CallOK G (d + 1) 21 [tv (.ite c a b), .str n] (.own [.int 3, .int 2, .int 1]) ∧ True) (by kernel_rfl) ⟨hf, by omega, rfl, hp, trivial⟩ (k _ _ _ _ _)
theorem pop_ite {c a b : Mine.Tree} {K M : List V} {s0 s1 s2 : V} (hM : M.length < room) (k : ∀ x5 x6 x7 x8 x9, PW (d + 1) (pst T v n K (.tup [.str z_if, s0, s1, s2] :: M) x5 x6 x7 x8 x9) Φ) : PW (d + 1) (pst T v n (.tup [tv (.ite c a b), .bool true] :: K) (s2 :: (s1 :: (s0 :: M))) x5 x6 x7 x8 x9) Φ :=
  have hp : CallOK G (d + 1) 21 [tv (.ite c a b), .str n] (.own [.int 3, .int 2, .int 1]) := ok_places d (.ite c a b) n
  have hf : ForOK G (d + 1) fi_put (.Name "place" ⟨22,16,22,21⟩) (l_put_22 (d + 1)).xs [.int 3, .int 2, .int 1] (pst T v n K (s2 :: (s1 :: (s0 :: M))) (some (.val (tv (.ite c a b)))) (some (.val (.bool true))) (some (.val (.lst [.int 1, .int 2, .int 3]))) (some (.own [tv b, tv a, tv c, .str z_if])) x9) .next (pst T v n K M (some (.val (tv (.ite c a b)))) (some (.val (.bool true))) (some (.val (.lst [.int 1, .int 2, .int 3]))) (some (.own [s2, s1, s0, .str z_if])) (some (.val (.int 1)))) :=
    (for_go (i := 9) (v := .int 3) (l := [.int 2, .int 1]) (ρ := (pst T v n K (s2 :: (s1 :: (s0 :: M))) (some (.val (tv (.ite c a b)))) (some (.val (.bool true))) (some (.val (.lst [.int 1, .int 2, .int 3]))) (some (.own [tv b, tv a, tv c, .str z_if])) x9)) (ρ' := (pst T v n K (s1 :: (s0 :: M)) (some (.val (tv (.ite c a b)))) (some (.val (.bool true))) (some (.val (.lst [.int 1, .int 2, .int 3]))) (some (.own [s2, tv a, tv c, .str z_if])) (some (.val (.int 3))))) (tp := []) (by kernel_rfl) (by kernel_rfl) (P := True) (by kernel_rfl) trivial (for_go (i := 9) (v := .int 2) (l := [.int 1]) (ρ := (pst T v n K (s1 :: (s0 :: M)) (some (.val (tv (.ite c a b)))) (some (.val (.bool true))) (some (.val (.lst [.int 1, .int 2, .int 3]))) (some (.own [s2, tv a, tv c, .str z_if])) (some (.val (.int 3))))) (ρ' := (pst T v n K (s0 :: M) (some (.val (tv (.ite c a b)))) (some (.val (.bool true))) (some (.val (.lst [.int 1, .int 2, .int 3]))) (some (.own [s2, s1, tv c, .str z_if])) (some (.val (.int 2))))) (tp := []) (by kernel_rfl) (by kernel_rfl) (P := True) (by kernel_rfl) trivial (for_go (i := 9) (v := .int 1) (l := []) (ρ := (pst T v n K (s0 :: M) (some (.val (tv (.ite c a b)))) (some (.val (.bool true))) (some (.val (.lst [.int 1, .int 2, .int 3]))) (some (.own [s2, s1, tv c, .str z_if])) (some (.val (.int 2))))) (ρ' := (pst T v n K M (some (.val (tv (.ite c a b)))) (some (.val (.bool true))) (some (.val (.lst [.int 1, .int 2, .int 3]))) (some (.own [s2, s1, s0, .str z_if])) (some (.val (.int 1))))) (tp := []) (by kernel_rfl) (by kernel_rfl) (P := True) (by kernel_rfl) trivial for_nil)))
  whp_go false (tp := [.r (.own [.int 3, .int 2, .int 1]), .l .next (pst T v n K M (some (.val (tv (.ite c a b)))) (some (.val (.bool true))) (some (.val (.lst [.int 1, .int 2, .int 3]))) (some (.own [s2, s1, s0, .str z_if])) (some (.val (.int 1))))]) (ρ' := (pst T v n K (.tup [.str z_if, s0, s1, s2] :: M) (some (.val (tv (.ite c a b)))) (some (.val (.bool true))) (some (.val (.lst [.int 1, .int 2, .int 3]))) (some (.own [s2, s1, s0, .str z_if])) (some (.val (.int 1))))) (by kernel_rfl) (P := (M.length < room) ∧ ForOK G (d + 1) fi_put (.Name "place" ⟨22,16,22,21⟩) (l_put_22 (d + 1)).xs [.int 3, .int 2, .int 1] (pst T v n K (s2 :: (s1 :: (s0 :: M))) (some (.val (tv (.ite c a b)))) (some (.val (.bool true))) (some (.val (.lst [.int 1, .int 2, .int 3]))) (some (.own [tv b, tv a, tv c, .str z_if])) x9) .next (pst T v n K M (some (.val (tv (.ite c a b)))) (some (.val (.bool true))) (some (.val (.lst [.int 1, .int 2, .int 3]))) (some (.own [s2, s1, s0, .str z_if])) (some (.val (.int 1)))) ∧ CallOK G (d + 1) 21 [tv (.ite c a b), .str n] (.own [.int 3, .int 2, .int 1]) ∧ True) (by kernel_rfl) ⟨hM, hf, hp, trivial⟩ (k _ _ _ _ _)
theorem push_lt1 {x : List Nat} {e b : Mine.Tree} {K M : List V} (h : (x == n) = true) (hK : K.length + 4 < room) (k : ∀ x5 x6 x7 x8 x9, PW (d + 1) (pst T v n (.tup [tv e, .bool false] :: (.tup [tv (.lt x e b), .bool true] :: K)) M x5 x6 x7 x8 x9) Φ) : PW (d + 1) (pst T v n (.tup [tv (.lt x e b), .bool false] :: K) M x5 x6 x7 x8 x9) Φ :=
  have hp : CallOK G (d + 1) 21 [tv (.lt x e b), .str n] (.own [.int 2]) := by have := ok_places d (.lt x e b) n; unfold pl at this; dsimp only at this; rw [h] at this; exact this
  have hf : ForOK G (d + 1) fi_put (.Name "place" ⟨31,16,31,21⟩) (l_put_31 (d + 1)).xs [.int 2] (pst T v n (.tup [tv (.lt x e b), .bool true] :: K) M (some (.val (tv (.lt x e b)))) (some (.val (.bool false))) (some (.val (.lst [.int 2]))) x8 x9) .next (pst T v n (.tup [tv e, .bool false] :: (.tup [tv (.lt x e b), .bool true] :: K)) M (some (.val (tv (.lt x e b)))) (some (.val (.bool false))) (some (.val (.lst [.int 2]))) x8 (some (.val (.int 2)))) :=
    (for_go (i := 9) (v := .int 2) (l := []) (ρ := (pst T v n (.tup [tv (.lt x e b), .bool true] :: K) M (some (.val (tv (.lt x e b)))) (some (.val (.bool false))) (some (.val (.lst [.int 2]))) x8 x9)) (ρ' := (pst T v n (.tup [tv e, .bool false] :: (.tup [tv (.lt x e b), .bool true] :: K)) M (some (.val (tv (.lt x e b)))) (some (.val (.bool false))) (some (.val (.lst [.int 2]))) x8 (some (.val (.int 2))))) (tp := []) (by kernel_rfl) (by kernel_rfl) (P := (((.tup [tv (.lt x e b), .bool true] :: K) : List V).length < room) ∧ True) (by kernel_rfl) ⟨by simp only [List.length_cons]; omega, trivial⟩ for_nil)
  whp_go false (tp := [.r (.own [.int 2]), .b false, .l .next (pst T v n (.tup [tv e, .bool false] :: (.tup [tv (.lt x e b), .bool true] :: K)) M (some (.val (tv (.lt x e b)))) (some (.val (.bool false))) (some (.val (.lst [.int 2]))) x8 (some (.val (.int 2))))]) (ρ' := (pst T v n (.tup [tv e, .bool false] :: (.tup [tv (.lt x e b), .bool true] :: K)) M (some (.val (tv (.lt x e b)))) (some (.val (.bool false))) (some (.val (.lst [.int 2]))) x8 (some (.val (.int 2))))) (by kernel_rfl) (P := ForOK G (d + 1) fi_put (.Name "place" ⟨31,16,31,21⟩) (l_put_31 (d + 1)).xs [.int 2] (pst T v n (.tup [tv (.lt x e b), .bool true] :: K) M (some (.val (tv (.lt x e b)))) (some (.val (.bool false))) (some (.val (.lst [.int 2]))) x8 x9) .next (pst T v n (.tup [tv e, .bool false] :: (.tup [tv (.lt x e b), .bool true] :: K)) M (some (.val (tv (.lt x e b)))) (some (.val (.bool false))) (some (.val (.lst [.int 2]))) x8 (some (.val (.int 2)))) ∧ (K.length < room) ∧ false = false ∧ CallOK G (d + 1) 21 [tv (.lt x e b), .str n] (.own [.int 2]) ∧ True) (by kernel_rfl) ⟨hf, by omega, rfl, hp, trivial⟩ (k _ _ _ _ _)
theorem pop_lt1 {x : List Nat} {e b : Mine.Tree} {K M : List V} {s0 : V} (h : (x == n) = true) (hM : M.length < room) (k : ∀ x5 x6 x7 x8 x9, PW (d + 1) (pst T v n K (.tup [.str z_let, .str x, s0, tv b] :: M) x5 x6 x7 x8 x9) Φ) : PW (d + 1) (pst T v n (.tup [tv (.lt x e b), .bool true] :: K) (s0 :: M) x5 x6 x7 x8 x9) Φ :=
  have hp : CallOK G (d + 1) 21 [tv (.lt x e b), .str n] (.own [.int 2]) := by have := ok_places d (.lt x e b) n; unfold pl at this; dsimp only at this; rw [h] at this; exact this
  have hf : ForOK G (d + 1) fi_put (.Name "place" ⟨22,16,22,21⟩) (l_put_22 (d + 1)).xs [.int 2] (pst T v n K (s0 :: M) (some (.val (tv (.lt x e b)))) (some (.val (.bool true))) (some (.val (.lst [.int 2]))) (some (.own [tv b, tv e, .str x, .str z_let])) x9) .next (pst T v n K M (some (.val (tv (.lt x e b)))) (some (.val (.bool true))) (some (.val (.lst [.int 2]))) (some (.own [tv b, s0, .str x, .str z_let])) (some (.val (.int 2)))) :=
    (for_go (i := 9) (v := .int 2) (l := []) (ρ := (pst T v n K (s0 :: M) (some (.val (tv (.lt x e b)))) (some (.val (.bool true))) (some (.val (.lst [.int 2]))) (some (.own [tv b, tv e, .str x, .str z_let])) x9)) (ρ' := (pst T v n K M (some (.val (tv (.lt x e b)))) (some (.val (.bool true))) (some (.val (.lst [.int 2]))) (some (.own [tv b, s0, .str x, .str z_let])) (some (.val (.int 2))))) (tp := []) (by kernel_rfl) (by kernel_rfl) (P := True) (by kernel_rfl) trivial for_nil)
  whp_go false (tp := [.r (.own [.int 2]), .l .next (pst T v n K M (some (.val (tv (.lt x e b)))) (some (.val (.bool true))) (some (.val (.lst [.int 2]))) (some (.own [tv b, s0, .str x, .str z_let])) (some (.val (.int 2))))]) (ρ' := (pst T v n K (.tup [.str z_let, .str x, s0, tv b] :: M) (some (.val (tv (.lt x e b)))) (some (.val (.bool true))) (some (.val (.lst [.int 2]))) (some (.own [tv b, s0, .str x, .str z_let])) (some (.val (.int 2))))) (by kernel_rfl) (P := (M.length < room) ∧ ForOK G (d + 1) fi_put (.Name "place" ⟨22,16,22,21⟩) (l_put_22 (d + 1)).xs [.int 2] (pst T v n K (s0 :: M) (some (.val (tv (.lt x e b)))) (some (.val (.bool true))) (some (.val (.lst [.int 2]))) (some (.own [tv b, tv e, .str x, .str z_let])) x9) .next (pst T v n K M (some (.val (tv (.lt x e b)))) (some (.val (.bool true))) (some (.val (.lst [.int 2]))) (some (.own [tv b, s0, .str x, .str z_let])) (some (.val (.int 2)))) ∧ CallOK G (d + 1) 21 [tv (.lt x e b), .str n] (.own [.int 2]) ∧ True) (by kernel_rfl) ⟨hM, hf, hp, trivial⟩ (k _ _ _ _ _)
theorem push_lt0 {x : List Nat} {e b : Mine.Tree} {K M : List V} (h : (x == n) = false) (hK : K.length + 4 < room) (k : ∀ x5 x6 x7 x8 x9, PW (d + 1) (pst T v n (.tup [tv e, .bool false] :: (.tup [tv b, .bool false] :: (.tup [tv (.lt x e b), .bool true] :: K))) M x5 x6 x7 x8 x9) Φ) : PW (d + 1) (pst T v n (.tup [tv (.lt x e b), .bool false] :: K) M x5 x6 x7 x8 x9) Φ :=
  have hp : CallOK G (d + 1) 21 [tv (.lt x e b), .str n] (.own [.int 3, .int 2]) := by have := ok_places d (.lt x e b) n; unfold pl at this; dsimp only at this; rw [h] at this; exact this
  have hf : ForOK G (d + 1) fi_put (.Name "place" ⟨31,16,31,21⟩) (l_put_31 (d + 1)).xs [.int 3, .int 2] (pst T v n (.tup [tv (.lt x e b), .bool true] :: K) M (some (.val (tv (.lt x e b)))) (some (.val (.bool false))) (some (.val (.lst [.int 2, .int 3]))) x8 x9) .next (pst T v n (.tup [tv e, .bool false] :: (.tup [tv b, .bool false] :: (.tup [tv (.lt x e b), .bool true] :: K))) M (some (.val (tv (.lt x e b)))) (some (.val (.bool false))) (some (.val (.lst [.int 2, .int 3]))) x8 (some (.val (.int 2)))) :=
    (for_go (i := 9) (v := .int 3) (l := [.int 2]) (ρ := (pst T v n (.tup [tv (.lt x e b), .bool true] :: K) M (some (.val (tv (.lt x e b)))) (some (.val (.bool false))) (some (.val (.lst [.int 2, .int 3]))) x8 x9)) (ρ' := (pst T v n (.tup [tv b, .bool false] :: (.tup [tv (.lt x e b), .bool true] :: K)) M (some (.val (tv (.lt x e b)))) (some (.val (.bool false))) (some (.val (.lst [.int 2, .int 3]))) x8 (some (.val (.int 3))))) (tp := []) (by kernel_rfl) (by kernel_rfl) (P := (((.tup [tv (.lt x e b), .bool true] :: K) : List V).length < room) ∧ True) (by kernel_rfl) ⟨by simp only [List.length_cons]; omega, trivial⟩ (for_go (i := 9) (v := .int 2) (l := []) (ρ := (pst T v n (.tup [tv b, .bool false] :: (.tup [tv (.lt x e b), .bool true] :: K)) M (some (.val (tv (.lt x e b)))) (some (.val (.bool false))) (some (.val (.lst [.int 2, .int 3]))) x8 (some (.val (.int 3))))) (ρ' := (pst T v n (.tup [tv e, .bool false] :: (.tup [tv b, .bool false] :: (.tup [tv (.lt x e b), .bool true] :: K))) M (some (.val (tv (.lt x e b)))) (some (.val (.bool false))) (some (.val (.lst [.int 2, .int 3]))) x8 (some (.val (.int 2))))) (tp := []) (by kernel_rfl) (by kernel_rfl) (P := (((.tup [tv b, .bool false] :: (.tup [tv (.lt x e b), .bool true] :: K)) : List V).length < room) ∧ True) (by kernel_rfl) ⟨by simp only [List.length_cons]; omega, trivial⟩ for_nil))
  whp_go false (tp := [.r (.own [.int 3, .int 2]), .b false, .l .next (pst T v n (.tup [tv e, .bool false] :: (.tup [tv b, .bool false] :: (.tup [tv (.lt x e b), .bool true] :: K))) M (some (.val (tv (.lt x e b)))) (some (.val (.bool false))) (some (.val (.lst [.int 2, .int 3]))) x8 (some (.val (.int 2))))]) (ρ' := (pst T v n (.tup [tv e, .bool false] :: (.tup [tv b, .bool false] :: (.tup [tv (.lt x e b), .bool true] :: K))) M (some (.val (tv (.lt x e b)))) (some (.val (.bool false))) (some (.val (.lst [.int 2, .int 3]))) x8 (some (.val (.int 2))))) (by kernel_rfl) (P := ForOK G (d + 1) fi_put (.Name "place" ⟨31,16,31,21⟩) (l_put_31 (d + 1)).xs [.int 3, .int 2] (pst T v n (.tup [tv (.lt x e b), .bool true] :: K) M (some (.val (tv (.lt x e b)))) (some (.val (.bool false))) (some (.val (.lst [.int 2, .int 3]))) x8 x9) .next (pst T v n (.tup [tv e, .bool false] :: (.tup [tv b, .bool false] :: (.tup [tv (.lt x e b), .bool true] :: K))) M (some (.val (tv (.lt x e b)))) (some (.val (.bool false))) (some (.val (.lst [.int 2, .int 3]))) x8 (some (.val (.int 2)))) ∧ (K.length < room) ∧ false = false ∧ CallOK G (d + 1) 21 [tv (.lt x e b), .str n] (.own [.int 3, .int 2]) ∧ True) (by kernel_rfl) ⟨hf, by omega, rfl, hp, trivial⟩ (k _ _ _ _ _)
theorem pop_lt0 {x : List Nat} {e b : Mine.Tree} {K M : List V} {s0 s1 : V} (h : (x == n) = false) (hM : M.length < room) (k : ∀ x5 x6 x7 x8 x9, PW (d + 1) (pst T v n K (.tup [.str z_let, .str x, s0, s1] :: M) x5 x6 x7 x8 x9) Φ) : PW (d + 1) (pst T v n (.tup [tv (.lt x e b), .bool true] :: K) (s1 :: (s0 :: M)) x5 x6 x7 x8 x9) Φ :=
  have hp : CallOK G (d + 1) 21 [tv (.lt x e b), .str n] (.own [.int 3, .int 2]) := by have := ok_places d (.lt x e b) n; unfold pl at this; dsimp only at this; rw [h] at this; exact this
  have hf : ForOK G (d + 1) fi_put (.Name "place" ⟨22,16,22,21⟩) (l_put_22 (d + 1)).xs [.int 3, .int 2] (pst T v n K (s1 :: (s0 :: M)) (some (.val (tv (.lt x e b)))) (some (.val (.bool true))) (some (.val (.lst [.int 2, .int 3]))) (some (.own [tv b, tv e, .str x, .str z_let])) x9) .next (pst T v n K M (some (.val (tv (.lt x e b)))) (some (.val (.bool true))) (some (.val (.lst [.int 2, .int 3]))) (some (.own [s1, s0, .str x, .str z_let])) (some (.val (.int 2)))) :=
    (for_go (i := 9) (v := .int 3) (l := [.int 2]) (ρ := (pst T v n K (s1 :: (s0 :: M)) (some (.val (tv (.lt x e b)))) (some (.val (.bool true))) (some (.val (.lst [.int 2, .int 3]))) (some (.own [tv b, tv e, .str x, .str z_let])) x9)) (ρ' := (pst T v n K (s0 :: M) (some (.val (tv (.lt x e b)))) (some (.val (.bool true))) (some (.val (.lst [.int 2, .int 3]))) (some (.own [s1, tv e, .str x, .str z_let])) (some (.val (.int 3))))) (tp := []) (by kernel_rfl) (by kernel_rfl) (P := True) (by kernel_rfl) trivial (for_go (i := 9) (v := .int 2) (l := []) (ρ := (pst T v n K (s0 :: M) (some (.val (tv (.lt x e b)))) (some (.val (.bool true))) (some (.val (.lst [.int 2, .int 3]))) (some (.own [s1, tv e, .str x, .str z_let])) (some (.val (.int 3))))) (ρ' := (pst T v n K M (some (.val (tv (.lt x e b)))) (some (.val (.bool true))) (some (.val (.lst [.int 2, .int 3]))) (some (.own [s1, s0, .str x, .str z_let])) (some (.val (.int 2))))) (tp := []) (by kernel_rfl) (by kernel_rfl) (P := True) (by kernel_rfl) trivial for_nil))
  whp_go false (tp := [.r (.own [.int 3, .int 2]), .l .next (pst T v n K M (some (.val (tv (.lt x e b)))) (some (.val (.bool true))) (some (.val (.lst [.int 2, .int 3]))) (some (.own [s1, s0, .str x, .str z_let])) (some (.val (.int 2))))]) (ρ' := (pst T v n K (.tup [.str z_let, .str x, s0, s1] :: M) (some (.val (tv (.lt x e b)))) (some (.val (.bool true))) (some (.val (.lst [.int 2, .int 3]))) (some (.own [s1, s0, .str x, .str z_let])) (some (.val (.int 2))))) (by kernel_rfl) (P := (M.length < room) ∧ ForOK G (d + 1) fi_put (.Name "place" ⟨22,16,22,21⟩) (l_put_22 (d + 1)).xs [.int 3, .int 2] (pst T v n K (s1 :: (s0 :: M)) (some (.val (tv (.lt x e b)))) (some (.val (.bool true))) (some (.val (.lst [.int 2, .int 3]))) (some (.own [tv b, tv e, .str x, .str z_let])) x9) .next (pst T v n K M (some (.val (tv (.lt x e b)))) (some (.val (.bool true))) (some (.val (.lst [.int 2, .int 3]))) (some (.own [s1, s0, .str x, .str z_let])) (some (.val (.int 2)))) ∧ CallOK G (d + 1) 21 [tv (.lt x e b), .str n] (.own [.int 3, .int 2]) ∧ True) (by kernel_rfl) ⟨hM, hf, hp, trivial⟩ (k _ _ _ _ _)
theorem sz_pos (t : Mine.Tree) : 1 ≤ sz t := by cases t <;> exact Nat.succ_le_succ (Nat.zero_le _)
theorem put_all (t : Mine.Tree) : ∀ {K M : List V} {x5 x6 x7 x8 x9 : Option O}, K.length + 4 * sz t < room → M.length + 4 * sz t < room → (∀ x5 x6 x7 x8 x9, PW (d + 1) (pst T v n K (sub n v t :: M) x5 x6 x7 x8 x9) Φ) → PW (d + 1) (pst T v n (.tup [tv t, .bool false] :: K) M x5 x6 x7 x8 x9) Φ := by
  induction t with
  | num i =>
    intro K M x5 x6 x7 x8 x9 hK hM k
    exact put_num (Nat.lt_of_le_of_lt (Nat.le_add_right ..) hM) k
  | name x =>
    intro K M x5 x6 x7 x8 x9 hK hM k
    unfold sub at k; dsimp only at k
    cases h : x == n with
    | true => rw [h] at k; exact put_name1 h (Nat.lt_of_le_of_lt (Nat.le_add_right ..) hM) k
    | false => rw [h] at k; exact put_name0 h (Nat.lt_of_le_of_lt (Nat.le_add_right ..) hM) k
  | fn x b ib =>
    intro K M x5 x6 x7 x8 x9 hK hM k
    have hs : sz (.fn x b) = sz b + 1 := rfl
    rw [hs] at hK hM
    have hb := sz_pos b
    have e : sub n v (.fn x b) = .tup [.str z_fun, .str x, Bool.casesOn (x == n) (sub n v b) (tv b)] := rfl
    rw [e] at k
    cases h : x == n with
    | true => rw [h] at k; exact put_fn1 h (by omega) k
    | false => rw [h] at k; exact push_fn0 h (by omega) fun _ _ _ _ _ => ib (by simp only [List.length_cons]; omega) (by (try simp only [List.length_cons]); omega) fun _ _ _ _ _ => pop_fn0 h (by omega) k
  | call a b ia ib =>
    intro K M x5 x6 x7 x8 x9 hK hM k
    have hs : sz (.call a b) = sz a + sz b + 1 := rfl
    rw [hs] at hK hM
    have ha := sz_pos a
    have hb := sz_pos b
    exact push_call (by omega) fun _ _ _ _ _ => ia (by simp only [List.length_cons]; omega) (by (try simp only [List.length_cons]); omega) fun _ _ _ _ _ => ib (by simp only [List.length_cons]; omega) (by (try simp only [List.length_cons]); omega) fun _ _ _ _ _ => pop_call (by omega) k
  | plus a b ia ib =>
    intro K M x5 x6 x7 x8 x9 hK hM k
    have hs : sz (.plus a b) = sz a + sz b + 1 := rfl
    rw [hs] at hK hM
    have ha := sz_pos a
    have hb := sz_pos b
    exact push_plus (by omega) fun _ _ _ _ _ => ia (by simp only [List.length_cons]; omega) (by (try simp only [List.length_cons]); omega) fun _ _ _ _ _ => ib (by simp only [List.length_cons]; omega) (by (try simp only [List.length_cons]); omega) fun _ _ _ _ _ => pop_plus (by omega) k
  | less a b ia ib =>
    intro K M x5 x6 x7 x8 x9 hK hM k
    have hs : sz (.less a b) = sz a + sz b + 1 := rfl
    rw [hs] at hK hM
    have ha := sz_pos a
    have hb := sz_pos b
    exact push_less (by omega) fun _ _ _ _ _ => ia (by simp only [List.length_cons]; omega) (by (try simp only [List.length_cons]); omega) fun _ _ _ _ _ => ib (by simp only [List.length_cons]; omega) (by (try simp only [List.length_cons]); omega) fun _ _ _ _ _ => pop_less (by omega) k
  | ite c a b ic ia ib =>
    intro K M x5 x6 x7 x8 x9 hK hM k
    have hs : sz (.ite c a b) = sz c + sz a + sz b + 1 := rfl
    rw [hs] at hK hM
    have hc := sz_pos c
    have ha := sz_pos a
    have hb := sz_pos b
    exact push_ite (by omega) fun _ _ _ _ _ => ic (by simp only [List.length_cons]; omega) (by (try simp only [List.length_cons]); omega) fun _ _ _ _ _ => ia (by simp only [List.length_cons]; omega) (by (try simp only [List.length_cons]); omega) fun _ _ _ _ _ => ib (by simp only [List.length_cons]; omega) (by (try simp only [List.length_cons]); omega) fun _ _ _ _ _ => pop_ite (by omega) k
  | lt x e b ie ib =>
    intro K M x5 x6 x7 x8 x9 hK hM k
    have hs : sz (.lt x e b) = sz e + sz b + 1 := rfl
    rw [hs] at hK hM
    have he := sz_pos e
    have hb := sz_pos b
    have e' : sub n v (.lt x e b) = .tup [.str z_let, .str x, sub n v e, Bool.casesOn (x == n) (sub n v b) (tv b)] := rfl
    rw [e'] at k
    cases h : x == n with
    | true => rw [h] at k; exact push_lt1 h (by omega) fun _ _ _ _ _ => ie (by simp only [List.length_cons]; omega) (by (try simp only [List.length_cons]); omega) fun _ _ _ _ _ => pop_lt1 h (by omega) k
    | false => rw [h] at k; exact push_lt0 h (by omega) fun _ _ _ _ _ => ie (by simp only [List.length_cons]; omega) (by (try simp only [List.length_cons]); omega) fun _ _ _ _ _ => ib (by simp only [List.length_cons]; omega) (by (try simp only [List.length_cons]); omega) fun _ _ _ _ _ => pop_lt0 h (by omega) k
theorem ok_put (t : Mine.Tree) (hz : 4 * sz t < room) : CallOK G (d + 2) 28 [tv t, .str n, v] (.val (sub n v t)) := by
  have hw : PW (d + 1) (pst (tv t) v n [.tup [tv t, .bool false]] [] none none none none none) fun fl ρ => fl = .next ∧ ∃ x5 x6 x7 x8 x9, ρ = pst (tv t) v n [] [sub n v t] x5 x6 x7 x8 x9 :=
    put_all t (by simpa using hz) (by simpa using hz) fun x5 x6 x7 x8 x9 => whp_end false (tp := []) (ρ' := pst (tv t) v n [] [sub n v t] x5 x6 x7 x8 x9) (by kernel_rfl) (P := True) (by kernel_rfl) trivial ⟨rfl, _, _, _, _, _, rfl⟩
  obtain ⟨fl, ρ, hw, rfl, x5, x6, x7, x8, x9, rfl⟩ := hw
  exact call_go (n := 7) (tp := [.l .next (pst (tv t) v n [] [sub n v t] x5 x6 x7 x8 x9)]) (b_put (d + 1)) rfl (b_put_x (d + 1)) rfl (by kernel_rfl) (P := WhilOK G (d + 1) fi_put (c_put_17 (d + 1)).x (l_put_17 (d + 1)).xs (pst (tv t) v n [.tup [tv t, .bool false]] [] none none none none none) .next (pst (tv t) v n [] [sub n v t] x5 x6 x7 x8 x9) ∧ True) (by kernel_rfl) ⟨hw, trivial⟩

end
end Mine
end

section
open PySem
set_option autoImplicit false
set_option maxRecDepth 100000
namespace Mine
open Mine.L03
noncomputable abbrev qst (T F v : V) (n : List Nat) (K : List V) (x5 x6 x7 x8 x9 : Option O) : Loc := [some (.val T), some (.val F), some (.val (.str n)), some (.val v), some (.own K), x5, x6, x7, x8, x9]
abbrev QW (d : Nat) (ρ : Loc) (Φ : Fl → Loc → Prop) : Prop := WhP (c__law_put_right_99 d) (l__law_put_right_99 d) ρ Φ
section
variable {d : Nat} {T F v : V} {n : List Nat} {x5 x6 x7 x8 x9 : Option O} {Φ : Fl → Loc → Prop}
theorem leaf_str (x : List Nat) : CallOK G (d + 1) 68 [.str x, .str x] (.val (.bool true)) := by
  have h : CallOK G (d + 1) 68 [.str x, .str x] (.val (.bool (x == x))) := call_go (n := 0) (tp := []) (b__law_leaf d) rfl (b__law_leaf_x d) rfl (by kernel_rfl) (P := True) (by kernel_rfl) trivial
  rwa [beq_self_eq_true] at h
theorem leaf_int (x : Int) : CallOK G (d + 1) 68 [.int x, .int x] (.val (.bool true)) := by
  have h : CallOK G (d + 1) 68 [.int x, .int x] (.val (.bool (x == x))) := call_go (n := 0) (tp := []) (b__law_leaf d) rfl (b__law_leaf_x d) rfl (by kernel_rfl) (P := True) (by kernel_rfl) trivial
  rwa [beq_self_eq_true] at h
theorem r_str {x : List Nat} {f : V} {K : List V} (k : ∀ x5 x6 x7 x8 x9, QW (d + 1) (qst T F v n K x5 x6 x7 x8 x9) Φ) : QW (d + 1) (qst T F v n (.tup [.str x, .str x, f] :: K) x5 x6 x7 x8 x9) Φ :=
  whp_go false (tp := [.r (.val (.bool true))]) (ρ' := qst T F v n K (some (.val (.tup [.str x, .str x, f]))) (some (.val (.str x))) (some (.val (.str x))) x8 x9) (by kernel_rfl) (P := CallOK G (d + 1) 68 [.str x, .str x] (.val (.bool true)) ∧ True) (by kernel_rfl) ⟨leaf_str x, trivial⟩ (k _ _ _ _ _)
theorem r_int {x : Int} {f : V} {K : List V} (k : ∀ x5 x6 x7 x8 x9, QW (d + 1) (qst T F v n K x5 x6 x7 x8 x9) Φ) : QW (d + 1) (qst T F v n (.tup [.int x, .int x, f] :: K) x5 x6 x7 x8 x9) Φ :=
  whp_go false (tp := [.r (.val (.bool true))]) (ρ' := qst T F v n K (some (.val (.tup [.int x, .int x, f]))) (some (.val (.int x))) (some (.val (.int x))) x8 x9) (by kernel_rfl) (P := CallOK G (d + 1) 68 [.int x, .int x] (.val (.bool true)) ∧ True) (by kernel_rfl) ⟨leaf_int x, trivial⟩ (k _ _ _ _ _)
theorem r_put {x : List Nat} {o : V} {K : List V} (h : (x == n) = true) (hK : K.length < room) (k : ∀ x5 x6 x7 x8 x9, QW (d + 1) (qst T F v n (.tup [v, o, .bool true] :: K) x5 x6 x7 x8 x9) Φ) : QW (d + 1) (qst T F v n (.tup [tv (.name x), o, .bool false] :: K) x5 x6 x7 x8 x9) Φ :=
  whp_go false (tp := [.b true]) (ρ' := qst T F v n (.tup [v, o, .bool true] :: K) (some (.val (.tup [tv (.name x), o, .bool false]))) (some (.val (tv (.name x)))) (some (.val o)) x8 x9) (by kernel_rfl) (P := (K.length < room) ∧ (x == n) = true ∧ True) (by kernel_rfl) ⟨hK, h, trivial⟩ (k _ _ _ _ _)
theorem r_t_num {i : Int} {K : List V} (hK : K.length + 4 < room) (k : ∀ x5 x6 x7 x8 x9, QW (d + 1) (qst T F v n (.tup [.int i, .int i, .bool true] :: (.tup [.str z_num, .str z_num, .bool true] :: K)) x5 x6 x7 x8 x9) Φ) : QW (d + 1) (qst T F v n ((.tup [(.tup [.str z_num, .int i]), (.tup [.str z_num, .int i]), .bool true]) :: K) x5 x6 x7 x8 x9) Φ :=
  have hf : ForOK G (d + 1) fi__law_put_right (.Name "_law_k" ⟨111,16,111,22⟩) (l__law_put_right_111 (d + 1)).xs [.int 0, .int 1] (qst T F v n K (some (.val (.tup [(.tup [.str z_num, .int i]), (.tup [.str z_num, .int i]), .bool true]))) (some (.val (.tup [.str z_num, .int i]))) (some (.val (.tup [.str z_num, .int i]))) x8 x9) .next (qst T F v n (.tup [.int i, .int i, .bool true] :: (.tup [.str z_num, .str z_num, .bool true] :: K)) (some (.val (.tup [(.tup [.str z_num, .int i]), (.tup [.str z_num, .int i]), .bool true]))) (some (.val (.tup [.str z_num, .int i]))) (some (.val (.tup [.str z_num, .int i]))) (some (.val (.int 1))) (some (.val (.bool true)))) :=
    (for_go (i := 8) (v := .int 0) (l := [.int 1]) (ρ := (qst T F v n K (some (.val (.tup [(.tup [.str z_num, .int i]), (.tup [.str z_num, .int i]), .bool true]))) (some (.val (.tup [.str z_num, .int i]))) (some (.val (.tup [.str z_num, .int i]))) x8 x9)) (ρ' := (qst T F v n (.tup [.str z_num, .str z_num, .bool true] :: K) (some (.val (.tup [(.tup [.str z_num, .int i]), (.tup [.str z_num, .int i]), .bool true]))) (some (.val (.tup [.str z_num, .int i]))) (some (.val (.tup [.str z_num, .int i]))) (some (.val (.int 0))) (some (.val (.bool true))))) (tp := [.b true]) (by kernel_rfl) (by kernel_rfl) (P := ((K : List V).length < room) ∧ true = true ∧ True) (by kernel_rfl) ⟨by (try simp only [List.length_cons]); omega, rfl, trivial⟩ (for_go (i := 8) (v := .int 1) (l := []) (ρ := (qst T F v n (.tup [.str z_num, .str z_num, .bool true] :: K) (some (.val (.tup [(.tup [.str z_num, .int i]), (.tup [.str z_num, .int i]), .bool true]))) (some (.val (.tup [.str z_num, .int i]))) (some (.val (.tup [.str z_num, .int i]))) (some (.val (.int 0))) (some (.val (.bool true))))) (ρ' := (qst T F v n (.tup [.int i, .int i, .bool true] :: (.tup [.str z_num, .str z_num, .bool true] :: K)) (some (.val (.tup [(.tup [.str z_num, .int i]), (.tup [.str z_num, .int i]), .bool true]))) (some (.val (.tup [.str z_num, .int i]))) (some (.val (.tup [.str z_num, .int i]))) (some (.val (.int 1))) (some (.val (.bool true))))) (tp := [.b true]) (by kernel_rfl) (by kernel_rfl) (P := (((.tup [.str z_num, .str z_num, .bool true] :: K) : List V).length < room) ∧ true = true ∧ True) (by kernel_rfl) ⟨by (try simp only [List.length_cons]); omega, rfl, trivial⟩ for_nil))
  whp_go false (tp := [.l .next (qst T F v n (.tup [.int i, .int i, .bool true] :: (.tup [.str z_num, .str z_num, .bool true] :: K)) (some (.val (.tup [(.tup [.str z_num, .int i]), (.tup [.str z_num, .int i]), .bool true]))) (some (.val (.tup [.str z_num, .int i]))) (some (.val (.tup [.str z_num, .int i]))) (some (.val (.int 1))) (some (.val (.bool true))))]) (ρ' := (qst T F v n (.tup [.int i, .int i, .bool true] :: (.tup [.str z_num, .str z_num, .bool true] :: K)) (some (.val (.tup [(.tup [.str z_num, .int i]), (.tup [.str z_num, .int i]), .bool true]))) (some (.val (.tup [.str z_num, .int i]))) (some (.val (.tup [.str z_num, .int i]))) (some (.val (.int 1))) (some (.val (.bool true))))) (by kernel_rfl) (P := ForOK G (d + 1) fi__law_put_right (.Name "_law_k" ⟨111,16,111,22⟩) (l__law_put_right_111 (d + 1)).xs [.int 0, .int 1] (qst T F v n K (some (.val (.tup [(.tup [.str z_num, .int i]), (.tup [.str z_num, .int i]), .bool true]))) (some (.val (.tup [.str z_num, .int i]))) (some (.val (.tup [.str z_num, .int i]))) x8 x9) .next (qst T F v n (.tup [.int i, .int i, .bool true] :: (.tup [.str z_num, .str z_num, .bool true] :: K)) (some (.val (.tup [(.tup [.str z_num, .int i]), (.tup [.str z_num, .int i]), .bool true]))) (some (.val (.tup [.str z_num, .int i]))) (some (.val (.tup [.str z_num, .int i]))) (some (.val (.int 1))) (some (.val (.bool true)))) ∧ 2 ≤ 1000000 ∧ True) (by kernel_rfl) ⟨hf, by decide, trivial⟩ (k _ _ _ _ _)
theorem r_t_name_true {x : List Nat} {K : List V} (h : (x == n) = true) (hK : K.length + 4 < room) (k : ∀ x5 x6 x7 x8 x9, QW (d + 1) (qst T F v n (.tup [.str x, .str x, .bool true] :: (.tup [.str z_name, .str z_name, .bool true] :: K)) x5 x6 x7 x8 x9) Φ) : QW (d + 1) (qst T F v n ((.tup [(.tup [.str z_name, .str x]), (.tup [.str z_name, .str x]), .bool true]) :: K) x5 x6 x7 x8 x9) Φ :=
  have hf : ForOK G (d + 1) fi__law_put_right (.Name "_law_k" ⟨111,16,111,22⟩) (l__law_put_right_111 (d + 1)).xs [.int 0, .int 1] (qst T F v n K (some (.val (.tup [(.tup [.str z_name, .str x]), (.tup [.str z_name, .str x]), .bool true]))) (some (.val (.tup [.str z_name, .str x]))) (some (.val (.tup [.str z_name, .str x]))) x8 x9) .next (qst T F v n (.tup [.str x, .str x, .bool true] :: (.tup [.str z_name, .str z_name, .bool true] :: K)) (some (.val (.tup [(.tup [.str z_name, .str x]), (.tup [.str z_name, .str x]), .bool true]))) (some (.val (.tup [.str z_name, .str x]))) (some (.val (.tup [.str z_name, .str x]))) (some (.val (.int 1))) (some (.val (.bool true)))) :=
    (for_go (i := 8) (v := .int 0) (l := [.int 1]) (ρ := (qst T F v n K (some (.val (.tup [(.tup [.str z_name, .str x]), (.tup [.str z_name, .str x]), .bool true]))) (some (.val (.tup [.str z_name, .str x]))) (some (.val (.tup [.str z_name, .str x]))) x8 x9)) (ρ' := (qst T F v n (.tup [.str z_name, .str z_name, .bool true] :: K) (some (.val (.tup [(.tup [.str z_name, .str x]), (.tup [.str z_name, .str x]), .bool true]))) (some (.val (.tup [.str z_name, .str x]))) (some (.val (.tup [.str z_name, .str x]))) (some (.val (.int 0))) (some (.val (.bool true))))) (tp := [.b true]) (by kernel_rfl) (by kernel_rfl) (P := ((K : List V).length < room) ∧ true = true ∧ True) (by kernel_rfl) ⟨by (try simp only [List.length_cons]); omega, rfl, trivial⟩ (for_go (i := 8) (v := .int 1) (l := []) (ρ := (qst T F v n (.tup [.str z_name, .str z_name, .bool true] :: K) (some (.val (.tup [(.tup [.str z_name, .str x]), (.tup [.str z_name, .str x]), .bool true]))) (some (.val (.tup [.str z_name, .str x]))) (some (.val (.tup [.str z_name, .str x]))) (some (.val (.int 0))) (some (.val (.bool true))))) (ρ' := (qst T F v n (.tup [.str x, .str x, .bool true] :: (.tup [.str z_name, .str z_name, .bool true] :: K)) (some (.val (.tup [(.tup [.str z_name, .str x]), (.tup [.str z_name, .str x]), .bool true]))) (some (.val (.tup [.str z_name, .str x]))) (some (.val (.tup [.str z_name, .str x]))) (some (.val (.int 1))) (some (.val (.bool true))))) (tp := [.b true]) (by kernel_rfl) (by kernel_rfl) (P := (((.tup [.str z_name, .str z_name, .bool true] :: K) : List V).length < room) ∧ true = true ∧ True) (by kernel_rfl) ⟨by (try simp only [List.length_cons]); omega, rfl, trivial⟩ for_nil))
  whp_go false (tp := [.b true, .l .next (qst T F v n (.tup [.str x, .str x, .bool true] :: (.tup [.str z_name, .str z_name, .bool true] :: K)) (some (.val (.tup [(.tup [.str z_name, .str x]), (.tup [.str z_name, .str x]), .bool true]))) (some (.val (.tup [.str z_name, .str x]))) (some (.val (.tup [.str z_name, .str x]))) (some (.val (.int 1))) (some (.val (.bool true))))]) (ρ' := (qst T F v n (.tup [.str x, .str x, .bool true] :: (.tup [.str z_name, .str z_name, .bool true] :: K)) (some (.val (.tup [(.tup [.str z_name, .str x]), (.tup [.str z_name, .str x]), .bool true]))) (some (.val (.tup [.str z_name, .str x]))) (some (.val (.tup [.str z_name, .str x]))) (some (.val (.int 1))) (some (.val (.bool true))))) (by kernel_rfl) (P := ForOK G (d + 1) fi__law_put_right (.Name "_law_k" ⟨111,16,111,22⟩) (l__law_put_right_111 (d + 1)).xs [.int 0, .int 1] (qst T F v n K (some (.val (.tup [(.tup [.str z_name, .str x]), (.tup [.str z_name, .str x]), .bool true]))) (some (.val (.tup [.str z_name, .str x]))) (some (.val (.tup [.str z_name, .str x]))) x8 x9) .next (qst T F v n (.tup [.str x, .str x, .bool true] :: (.tup [.str z_name, .str z_name, .bool true] :: K)) (some (.val (.tup [(.tup [.str z_name, .str x]), (.tup [.str z_name, .str x]), .bool true]))) (some (.val (.tup [.str z_name, .str x]))) (some (.val (.tup [.str z_name, .str x]))) (some (.val (.int 1))) (some (.val (.bool true)))) ∧ 2 ≤ 1000000 ∧ (x == n) = true ∧ True) (by kernel_rfl) ⟨hf, by decide, h, trivial⟩ (k _ _ _ _ _)
theorem r_t_name_false {x : List Nat} {K : List V} (h : (x == n) = false) (hK : K.length + 4 < room) (k : ∀ x5 x6 x7 x8 x9, QW (d + 1) (qst T F v n (.tup [.str x, .str x, .bool true] :: (.tup [.str z_name, .str z_name, .bool true] :: K)) x5 x6 x7 x8 x9) Φ) : QW (d + 1) (qst T F v n ((.tup [(.tup [.str z_name, .str x]), (.tup [.str z_name, .str x]), .bool true]) :: K) x5 x6 x7 x8 x9) Φ :=
  have hf : ForOK G (d + 1) fi__law_put_right (.Name "_law_k" ⟨111,16,111,22⟩) (l__law_put_right_111 (d + 1)).xs [.int 0, .int 1] (qst T F v n K (some (.val (.tup [(.tup [.str z_name, .str x]), (.tup [.str z_name, .str x]), .bool true]))) (some (.val (.tup [.str z_name, .str x]))) (some (.val (.tup [.str z_name, .str x]))) x8 x9) .next (qst T F v n (.tup [.str x, .str x, .bool true] :: (.tup [.str z_name, .str z_name, .bool true] :: K)) (some (.val (.tup [(.tup [.str z_name, .str x]), (.tup [.str z_name, .str x]), .bool true]))) (some (.val (.tup [.str z_name, .str x]))) (some (.val (.tup [.str z_name, .str x]))) (some (.val (.int 1))) (some (.val (.bool true)))) :=
    (for_go (i := 8) (v := .int 0) (l := [.int 1]) (ρ := (qst T F v n K (some (.val (.tup [(.tup [.str z_name, .str x]), (.tup [.str z_name, .str x]), .bool true]))) (some (.val (.tup [.str z_name, .str x]))) (some (.val (.tup [.str z_name, .str x]))) x8 x9)) (ρ' := (qst T F v n (.tup [.str z_name, .str z_name, .bool true] :: K) (some (.val (.tup [(.tup [.str z_name, .str x]), (.tup [.str z_name, .str x]), .bool true]))) (some (.val (.tup [.str z_name, .str x]))) (some (.val (.tup [.str z_name, .str x]))) (some (.val (.int 0))) (some (.val (.bool true))))) (tp := [.b true]) (by kernel_rfl) (by kernel_rfl) (P := ((K : List V).length < room) ∧ true = true ∧ True) (by kernel_rfl) ⟨by (try simp only [List.length_cons]); omega, rfl, trivial⟩ (for_go (i := 8) (v := .int 1) (l := []) (ρ := (qst T F v n (.tup [.str z_name, .str z_name, .bool true] :: K) (some (.val (.tup [(.tup [.str z_name, .str x]), (.tup [.str z_name, .str x]), .bool true]))) (some (.val (.tup [.str z_name, .str x]))) (some (.val (.tup [.str z_name, .str x]))) (some (.val (.int 0))) (some (.val (.bool true))))) (ρ' := (qst T F v n (.tup [.str x, .str x, .bool true] :: (.tup [.str z_name, .str z_name, .bool true] :: K)) (some (.val (.tup [(.tup [.str z_name, .str x]), (.tup [.str z_name, .str x]), .bool true]))) (some (.val (.tup [.str z_name, .str x]))) (some (.val (.tup [.str z_name, .str x]))) (some (.val (.int 1))) (some (.val (.bool true))))) (tp := [.b true]) (by kernel_rfl) (by kernel_rfl) (P := (((.tup [.str z_name, .str z_name, .bool true] :: K) : List V).length < room) ∧ true = true ∧ True) (by kernel_rfl) ⟨by (try simp only [List.length_cons]); omega, rfl, trivial⟩ for_nil))
  whp_go false (tp := [.b false, .l .next (qst T F v n (.tup [.str x, .str x, .bool true] :: (.tup [.str z_name, .str z_name, .bool true] :: K)) (some (.val (.tup [(.tup [.str z_name, .str x]), (.tup [.str z_name, .str x]), .bool true]))) (some (.val (.tup [.str z_name, .str x]))) (some (.val (.tup [.str z_name, .str x]))) (some (.val (.int 1))) (some (.val (.bool true))))]) (ρ' := (qst T F v n (.tup [.str x, .str x, .bool true] :: (.tup [.str z_name, .str z_name, .bool true] :: K)) (some (.val (.tup [(.tup [.str z_name, .str x]), (.tup [.str z_name, .str x]), .bool true]))) (some (.val (.tup [.str z_name, .str x]))) (some (.val (.tup [.str z_name, .str x]))) (some (.val (.int 1))) (some (.val (.bool true))))) (by kernel_rfl) (P := ForOK G (d + 1) fi__law_put_right (.Name "_law_k" ⟨111,16,111,22⟩) (l__law_put_right_111 (d + 1)).xs [.int 0, .int 1] (qst T F v n K (some (.val (.tup [(.tup [.str z_name, .str x]), (.tup [.str z_name, .str x]), .bool true]))) (some (.val (.tup [.str z_name, .str x]))) (some (.val (.tup [.str z_name, .str x]))) x8 x9) .next (qst T F v n (.tup [.str x, .str x, .bool true] :: (.tup [.str z_name, .str z_name, .bool true] :: K)) (some (.val (.tup [(.tup [.str z_name, .str x]), (.tup [.str z_name, .str x]), .bool true]))) (some (.val (.tup [.str z_name, .str x]))) (some (.val (.tup [.str z_name, .str x]))) (some (.val (.int 1))) (some (.val (.bool true)))) ∧ 2 ≤ 1000000 ∧ (x == n) = false ∧ True) (by kernel_rfl) ⟨hf, by decide, h, trivial⟩ (k _ _ _ _ _)
theorem r_t_3 {a0 a1 a2 b0 b1 b2 : V} {K : List V} (hK : K.length + 4 < room) (k : ∀ x5 x6 x7 x8 x9, QW (d + 1) (qst T F v n (.tup [a2, b2, .bool true] :: (.tup [a1, b1, .bool true] :: (.tup [a0, b0, .bool true] :: K))) x5 x6 x7 x8 x9) Φ) : QW (d + 1) (qst T F v n ((.tup [(.tup [a0, a1, a2]), (.tup [b0, b1, b2]), .bool true]) :: K) x5 x6 x7 x8 x9) Φ :=
  have hf : ForOK G (d + 1) fi__law_put_right (.Name "_law_k" ⟨111,16,111,22⟩) (l__law_put_right_111 (d + 1)).xs [.int 0, .int 1, .int 2] (qst T F v n K (some (.val (.tup [(.tup [a0, a1, a2]), (.tup [b0, b1, b2]), .bool true]))) (some (.val (.tup [a0, a1, a2]))) (some (.val (.tup [b0, b1, b2]))) x8 x9) .next (qst T F v n (.tup [a2, b2, .bool true] :: (.tup [a1, b1, .bool true] :: (.tup [a0, b0, .bool true] :: K))) (some (.val (.tup [(.tup [a0, a1, a2]), (.tup [b0, b1, b2]), .bool true]))) (some (.val (.tup [a0, a1, a2]))) (some (.val (.tup [b0, b1, b2]))) (some (.val (.int 2))) (some (.val (.bool true)))) :=
    (for_go (i := 8) (v := .int 0) (l := [.int 1, .int 2]) (ρ := (qst T F v n K (some (.val (.tup [(.tup [a0, a1, a2]), (.tup [b0, b1, b2]), .bool true]))) (some (.val (.tup [a0, a1, a2]))) (some (.val (.tup [b0, b1, b2]))) x8 x9)) (ρ' := (qst T F v n (.tup [a0, b0, .bool true] :: K) (some (.val (.tup [(.tup [a0, a1, a2]), (.tup [b0, b1, b2]), .bool true]))) (some (.val (.tup [a0, a1, a2]))) (some (.val (.tup [b0, b1, b2]))) (some (.val (.int 0))) (some (.val (.bool true))))) (tp := [.b true]) (by kernel_rfl) (by kernel_rfl) (P := ((K : List V).length < room) ∧ true = true ∧ True) (by kernel_rfl) ⟨by (try simp only [List.length_cons]); omega, rfl, trivial⟩ (for_go (i := 8) (v := .int 1) (l := [.int 2]) (ρ := (qst T F v n (.tup [a0, b0, .bool true] :: K) (some (.val (.tup [(.tup [a0, a1, a2]), (.tup [b0, b1, b2]), .bool true]))) (some (.val (.tup [a0, a1, a2]))) (some (.val (.tup [b0, b1, b2]))) (some (.val (.int 0))) (some (.val (.bool true))))) (ρ' := (qst T F v n (.tup [a1, b1, .bool true] :: (.tup [a0, b0, .bool true] :: K)) (some (.val (.tup [(.tup [a0, a1, a2]), (.tup [b0, b1, b2]), .bool true]))) (some (.val (.tup [a0, a1, a2]))) (some (.val (.tup [b0, b1, b2]))) (some (.val (.int 1))) (some (.val (.bool true))))) (tp := [.b true]) (by kernel_rfl) (by kernel_rfl) (P := (((.tup [a0, b0, .bool true] :: K) : List V).length < room) ∧ true = true ∧ True) (by kernel_rfl) ⟨by (try simp only [List.length_cons]); omega, rfl, trivial⟩ (for_go (i := 8) (v := .int 2) (l := []) (ρ := (qst T F v n (.tup [a1, b1, .bool true] :: (.tup [a0, b0, .bool true] :: K)) (some (.val (.tup [(.tup [a0, a1, a2]), (.tup [b0, b1, b2]), .bool true]))) (some (.val (.tup [a0, a1, a2]))) (some (.val (.tup [b0, b1, b2]))) (some (.val (.int 1))) (some (.val (.bool true))))) (ρ' := (qst T F v n (.tup [a2, b2, .bool true] :: (.tup [a1, b1, .bool true] :: (.tup [a0, b0, .bool true] :: K))) (some (.val (.tup [(.tup [a0, a1, a2]), (.tup [b0, b1, b2]), .bool true]))) (some (.val (.tup [a0, a1, a2]))) (some (.val (.tup [b0, b1, b2]))) (some (.val (.int 2))) (some (.val (.bool true))))) (tp := [.b true]) (by kernel_rfl) (by kernel_rfl) (P := (((.tup [a1, b1, .bool true] :: (.tup [a0, b0, .bool true] :: K)) : List V).length < room) ∧ true = true ∧ True) (by kernel_rfl) ⟨by (try simp only [List.length_cons]); omega, rfl, trivial⟩ for_nil)))
  whp_go false (tp := [.l .next (qst T F v n (.tup [a2, b2, .bool true] :: (.tup [a1, b1, .bool true] :: (.tup [a0, b0, .bool true] :: K))) (some (.val (.tup [(.tup [a0, a1, a2]), (.tup [b0, b1, b2]), .bool true]))) (some (.val (.tup [a0, a1, a2]))) (some (.val (.tup [b0, b1, b2]))) (some (.val (.int 2))) (some (.val (.bool true))))]) (ρ' := (qst T F v n (.tup [a2, b2, .bool true] :: (.tup [a1, b1, .bool true] :: (.tup [a0, b0, .bool true] :: K))) (some (.val (.tup [(.tup [a0, a1, a2]), (.tup [b0, b1, b2]), .bool true]))) (some (.val (.tup [a0, a1, a2]))) (some (.val (.tup [b0, b1, b2]))) (some (.val (.int 2))) (some (.val (.bool true))))) (by kernel_rfl) (P := ForOK G (d + 1) fi__law_put_right (.Name "_law_k" ⟨111,16,111,22⟩) (l__law_put_right_111 (d + 1)).xs [.int 0, .int 1, .int 2] (qst T F v n K (some (.val (.tup [(.tup [a0, a1, a2]), (.tup [b0, b1, b2]), .bool true]))) (some (.val (.tup [a0, a1, a2]))) (some (.val (.tup [b0, b1, b2]))) x8 x9) .next (qst T F v n (.tup [a2, b2, .bool true] :: (.tup [a1, b1, .bool true] :: (.tup [a0, b0, .bool true] :: K))) (some (.val (.tup [(.tup [a0, a1, a2]), (.tup [b0, b1, b2]), .bool true]))) (some (.val (.tup [a0, a1, a2]))) (some (.val (.tup [b0, b1, b2]))) (some (.val (.int 2))) (some (.val (.bool true)))) ∧ 3 ≤ 1000000 ∧ True) (by kernel_rfl) ⟨hf, by decide, trivial⟩ (k _ _ _ _ _)
theorem r_t_4 {a0 a1 a2 a3 b0 b1 b2 b3 : V} {K : List V} (hK : K.length + 4 < room) (k : ∀ x5 x6 x7 x8 x9, QW (d + 1) (qst T F v n (.tup [a3, b3, .bool true] :: (.tup [a2, b2, .bool true] :: (.tup [a1, b1, .bool true] :: (.tup [a0, b0, .bool true] :: K)))) x5 x6 x7 x8 x9) Φ) : QW (d + 1) (qst T F v n ((.tup [(.tup [a0, a1, a2, a3]), (.tup [b0, b1, b2, b3]), .bool true]) :: K) x5 x6 x7 x8 x9) Φ :=
  have hf : ForOK G (d + 1) fi__law_put_right (.Name "_law_k" ⟨111,16,111,22⟩) (l__law_put_right_111 (d + 1)).xs [.int 0, .int 1, .int 2, .int 3] (qst T F v n K (some (.val (.tup [(.tup [a0, a1, a2, a3]), (.tup [b0, b1, b2, b3]), .bool true]))) (some (.val (.tup [a0, a1, a2, a3]))) (some (.val (.tup [b0, b1, b2, b3]))) x8 x9) .next (qst T F v n (.tup [a3, b3, .bool true] :: (.tup [a2, b2, .bool true] :: (.tup [a1, b1, .bool true] :: (.tup [a0, b0, .bool true] :: K)))) (some (.val (.tup [(.tup [a0, a1, a2, a3]), (.tup [b0, b1, b2, b3]), .bool true]))) (some (.val (.tup [a0, a1, a2, a3]))) (some (.val (.tup [b0, b1, b2, b3]))) (some (.val (.int 3))) (some (.val (.bool true)))) :=
    (for_go (i := 8) (v := .int 0) (l := [.int 1, .int 2, .int 3]) (ρ := (qst T F v n K (some (.val (.tup [(.tup [a0, a1, a2, a3]), (.tup [b0, b1, b2, b3]), .bool true]))) (some (.val (.tup [a0, a1, a2, a3]))) (some (.val (.tup [b0, b1, b2, b3]))) x8 x9)) (ρ' := (qst T F v n (.tup [a0, b0, .bool true] :: K) (some (.val (.tup [(.tup [a0, a1, a2, a3]), (.tup [b0, b1, b2, b3]), .bool true]))) (some (.val (.tup [a0, a1, a2, a3]))) (some (.val (.tup [b0, b1, b2, b3]))) (some (.val (.int 0))) (some (.val (.bool true))))) (tp := [.b true]) (by kernel_rfl) (by kernel_rfl) (P := ((K : List V).length < room) ∧ true = true ∧ True) (by kernel_rfl) ⟨by (try simp only [List.length_cons]); omega, rfl, trivial⟩ (for_go (i := 8) (v := .int 1) (l := [.int 2, .int 3]) (ρ := (qst T F v n (.tup [a0, b0, .bool true] :: K) (some (.val (.tup [(.tup [a0, a1, a2, a3]), (.tup [b0, b1, b2, b3]), .bool true]))) (some (.val (.tup [a0, a1, a2, a3]))) (some (.val (.tup [b0, b1, b2, b3]))) (some (.val (.int 0))) (some (.val (.bool true))))) (ρ' := (qst T F v n (.tup [a1, b1, .bool true] :: (.tup [a0, b0, .bool true] :: K)) (some (.val (.tup [(.tup [a0, a1, a2, a3]), (.tup [b0, b1, b2, b3]), .bool true]))) (some (.val (.tup [a0, a1, a2, a3]))) (some (.val (.tup [b0, b1, b2, b3]))) (some (.val (.int 1))) (some (.val (.bool true))))) (tp := [.b true]) (by kernel_rfl) (by kernel_rfl) (P := (((.tup [a0, b0, .bool true] :: K) : List V).length < room) ∧ true = true ∧ True) (by kernel_rfl) ⟨by (try simp only [List.length_cons]); omega, rfl, trivial⟩ (for_go (i := 8) (v := .int 2) (l := [.int 3]) (ρ := (qst T F v n (.tup [a1, b1, .bool true] :: (.tup [a0, b0, .bool true] :: K)) (some (.val (.tup [(.tup [a0, a1, a2, a3]), (.tup [b0, b1, b2, b3]), .bool true]))) (some (.val (.tup [a0, a1, a2, a3]))) (some (.val (.tup [b0, b1, b2, b3]))) (some (.val (.int 1))) (some (.val (.bool true))))) (ρ' := (qst T F v n (.tup [a2, b2, .bool true] :: (.tup [a1, b1, .bool true] :: (.tup [a0, b0, .bool true] :: K))) (some (.val (.tup [(.tup [a0, a1, a2, a3]), (.tup [b0, b1, b2, b3]), .bool true]))) (some (.val (.tup [a0, a1, a2, a3]))) (some (.val (.tup [b0, b1, b2, b3]))) (some (.val (.int 2))) (some (.val (.bool true))))) (tp := [.b true]) (by kernel_rfl) (by kernel_rfl) (P := (((.tup [a1, b1, .bool true] :: (.tup [a0, b0, .bool true] :: K)) : List V).length < room) ∧ true = true ∧ True) (by kernel_rfl) ⟨by (try simp only [List.length_cons]); omega, rfl, trivial⟩ (for_go (i := 8) (v := .int 3) (l := []) (ρ := (qst T F v n (.tup [a2, b2, .bool true] :: (.tup [a1, b1, .bool true] :: (.tup [a0, b0, .bool true] :: K))) (some (.val (.tup [(.tup [a0, a1, a2, a3]), (.tup [b0, b1, b2, b3]), .bool true]))) (some (.val (.tup [a0, a1, a2, a3]))) (some (.val (.tup [b0, b1, b2, b3]))) (some (.val (.int 2))) (some (.val (.bool true))))) (ρ' := (qst T F v n (.tup [a3, b3, .bool true] :: (.tup [a2, b2, .bool true] :: (.tup [a1, b1, .bool true] :: (.tup [a0, b0, .bool true] :: K)))) (some (.val (.tup [(.tup [a0, a1, a2, a3]), (.tup [b0, b1, b2, b3]), .bool true]))) (some (.val (.tup [a0, a1, a2, a3]))) (some (.val (.tup [b0, b1, b2, b3]))) (some (.val (.int 3))) (some (.val (.bool true))))) (tp := [.b true]) (by kernel_rfl) (by kernel_rfl) (P := (((.tup [a2, b2, .bool true] :: (.tup [a1, b1, .bool true] :: (.tup [a0, b0, .bool true] :: K))) : List V).length < room) ∧ true = true ∧ True) (by kernel_rfl) ⟨by (try simp only [List.length_cons]); omega, rfl, trivial⟩ for_nil))))
  whp_go false (tp := [.l .next (qst T F v n (.tup [a3, b3, .bool true] :: (.tup [a2, b2, .bool true] :: (.tup [a1, b1, .bool true] :: (.tup [a0, b0, .bool true] :: K)))) (some (.val (.tup [(.tup [a0, a1, a2, a3]), (.tup [b0, b1, b2, b3]), .bool true]))) (some (.val (.tup [a0, a1, a2, a3]))) (some (.val (.tup [b0, b1, b2, b3]))) (some (.val (.int 3))) (some (.val (.bool true))))]) (ρ' := (qst T F v n (.tup [a3, b3, .bool true] :: (.tup [a2, b2, .bool true] :: (.tup [a1, b1, .bool true] :: (.tup [a0, b0, .bool true] :: K)))) (some (.val (.tup [(.tup [a0, a1, a2, a3]), (.tup [b0, b1, b2, b3]), .bool true]))) (some (.val (.tup [a0, a1, a2, a3]))) (some (.val (.tup [b0, b1, b2, b3]))) (some (.val (.int 3))) (some (.val (.bool true))))) (by kernel_rfl) (P := ForOK G (d + 1) fi__law_put_right (.Name "_law_k" ⟨111,16,111,22⟩) (l__law_put_right_111 (d + 1)).xs [.int 0, .int 1, .int 2, .int 3] (qst T F v n K (some (.val (.tup [(.tup [a0, a1, a2, a3]), (.tup [b0, b1, b2, b3]), .bool true]))) (some (.val (.tup [a0, a1, a2, a3]))) (some (.val (.tup [b0, b1, b2, b3]))) x8 x9) .next (qst T F v n (.tup [a3, b3, .bool true] :: (.tup [a2, b2, .bool true] :: (.tup [a1, b1, .bool true] :: (.tup [a0, b0, .bool true] :: K)))) (some (.val (.tup [(.tup [a0, a1, a2, a3]), (.tup [b0, b1, b2, b3]), .bool true]))) (some (.val (.tup [a0, a1, a2, a3]))) (some (.val (.tup [b0, b1, b2, b3]))) (some (.val (.int 3))) (some (.val (.bool true)))) ∧ 4 ≤ 1000000 ∧ True) (by kernel_rfl) ⟨hf, by decide, trivial⟩ (k _ _ _ _ _)
theorem r_num {i : Int} {K : List V} (hK : K.length + 4 < room) (k : ∀ x5 x6 x7 x8 x9, QW (d + 1) (qst T F v n (.tup [.int i, .int i, .bool false] :: (.tup [.str z_num, .str z_num, .bool false] :: K)) x5 x6 x7 x8 x9) Φ) : QW (d + 1) (qst T F v n ((.tup [(.tup [.str z_num, .int i]), (.tup [.str z_num, .int i]), .bool false]) :: K) x5 x6 x7 x8 x9) Φ :=
  have hf : ForOK G (d + 1) fi__law_put_right (.Name "_law_k" ⟨111,16,111,22⟩) (l__law_put_right_111 (d + 1)).xs [.int 0, .int 1] (qst T F v n K (some (.val (.tup [(.tup [.str z_num, .int i]), (.tup [.str z_num, .int i]), .bool false]))) (some (.val (.tup [.str z_num, .int i]))) (some (.val (.tup [.str z_num, .int i]))) x8 x9) .next (qst T F v n (.tup [.int i, .int i, .bool false] :: (.tup [.str z_num, .str z_num, .bool false] :: K)) (some (.val (.tup [(.tup [.str z_num, .int i]), (.tup [.str z_num, .int i]), .bool false]))) (some (.val (.tup [.str z_num, .int i]))) (some (.val (.tup [.str z_num, .int i]))) (some (.val (.int 1))) (some (.val (.bool false)))) :=
    (for_go (i := 8) (v := .int 0) (l := [.int 1]) (ρ := (qst T F v n K (some (.val (.tup [(.tup [.str z_num, .int i]), (.tup [.str z_num, .int i]), .bool false]))) (some (.val (.tup [.str z_num, .int i]))) (some (.val (.tup [.str z_num, .int i]))) x8 x9)) (ρ' := (qst T F v n (.tup [.str z_num, .str z_num, .bool false] :: K) (some (.val (.tup [(.tup [.str z_num, .int i]), (.tup [.str z_num, .int i]), .bool false]))) (some (.val (.tup [.str z_num, .int i]))) (some (.val (.tup [.str z_num, .int i]))) (some (.val (.int 0))) (some (.val (.bool false))))) (tp := [.b false]) (by kernel_rfl) (by kernel_rfl) (P := ((K : List V).length < room) ∧ false = false ∧ True) (by kernel_rfl) ⟨by (try simp only [List.length_cons]); omega, rfl, trivial⟩ (for_go (i := 8) (v := .int 1) (l := []) (ρ := (qst T F v n (.tup [.str z_num, .str z_num, .bool false] :: K) (some (.val (.tup [(.tup [.str z_num, .int i]), (.tup [.str z_num, .int i]), .bool false]))) (some (.val (.tup [.str z_num, .int i]))) (some (.val (.tup [.str z_num, .int i]))) (some (.val (.int 0))) (some (.val (.bool false))))) (ρ' := (qst T F v n (.tup [.int i, .int i, .bool false] :: (.tup [.str z_num, .str z_num, .bool false] :: K)) (some (.val (.tup [(.tup [.str z_num, .int i]), (.tup [.str z_num, .int i]), .bool false]))) (some (.val (.tup [.str z_num, .int i]))) (some (.val (.tup [.str z_num, .int i]))) (some (.val (.int 1))) (some (.val (.bool false))))) (tp := [.b false]) (by kernel_rfl) (by kernel_rfl) (P := (((.tup [.str z_num, .str z_num, .bool false] :: K) : List V).length < room) ∧ false = false ∧ True) (by kernel_rfl) ⟨by (try simp only [List.length_cons]); omega, rfl, trivial⟩ for_nil))
  whp_go false (tp := [.l .next (qst T F v n (.tup [.int i, .int i, .bool false] :: (.tup [.str z_num, .str z_num, .bool false] :: K)) (some (.val (.tup [(.tup [.str z_num, .int i]), (.tup [.str z_num, .int i]), .bool false]))) (some (.val (.tup [.str z_num, .int i]))) (some (.val (.tup [.str z_num, .int i]))) (some (.val (.int 1))) (some (.val (.bool false))))]) (ρ' := (qst T F v n (.tup [.int i, .int i, .bool false] :: (.tup [.str z_num, .str z_num, .bool false] :: K)) (some (.val (.tup [(.tup [.str z_num, .int i]), (.tup [.str z_num, .int i]), .bool false]))) (some (.val (.tup [.str z_num, .int i]))) (some (.val (.tup [.str z_num, .int i]))) (some (.val (.int 1))) (some (.val (.bool false))))) (by kernel_rfl) (P := ForOK G (d + 1) fi__law_put_right (.Name "_law_k" ⟨111,16,111,22⟩) (l__law_put_right_111 (d + 1)).xs [.int 0, .int 1] (qst T F v n K (some (.val (.tup [(.tup [.str z_num, .int i]), (.tup [.str z_num, .int i]), .bool false]))) (some (.val (.tup [.str z_num, .int i]))) (some (.val (.tup [.str z_num, .int i]))) x8 x9) .next (qst T F v n (.tup [.int i, .int i, .bool false] :: (.tup [.str z_num, .str z_num, .bool false] :: K)) (some (.val (.tup [(.tup [.str z_num, .int i]), (.tup [.str z_num, .int i]), .bool false]))) (some (.val (.tup [.str z_num, .int i]))) (some (.val (.tup [.str z_num, .int i]))) (some (.val (.int 1))) (some (.val (.bool false)))) ∧ 2 ≤ 1000000 ∧ True) (by kernel_rfl) ⟨hf, by decide, trivial⟩ (k _ _ _ _ _)
theorem r_name {x : List Nat} {K : List V} (h : (x == n) = false) (hK : K.length + 4 < room) (k : ∀ x5 x6 x7 x8 x9, QW (d + 1) (qst T F v n (.tup [.str x, .str x, .bool false] :: (.tup [.str z_name, .str z_name, .bool false] :: K)) x5 x6 x7 x8 x9) Φ) : QW (d + 1) (qst T F v n ((.tup [(.tup [.str z_name, .str x]), (.tup [.str z_name, .str x]), .bool false]) :: K) x5 x6 x7 x8 x9) Φ :=
  have hf : ForOK G (d + 1) fi__law_put_right (.Name "_law_k" ⟨111,16,111,22⟩) (l__law_put_right_111 (d + 1)).xs [.int 0, .int 1] (qst T F v n K (some (.val (.tup [(.tup [.str z_name, .str x]), (.tup [.str z_name, .str x]), .bool false]))) (some (.val (.tup [.str z_name, .str x]))) (some (.val (.tup [.str z_name, .str x]))) x8 x9) .next (qst T F v n (.tup [.str x, .str x, .bool false] :: (.tup [.str z_name, .str z_name, .bool false] :: K)) (some (.val (.tup [(.tup [.str z_name, .str x]), (.tup [.str z_name, .str x]), .bool false]))) (some (.val (.tup [.str z_name, .str x]))) (some (.val (.tup [.str z_name, .str x]))) (some (.val (.int 1))) (some (.val (.bool false)))) :=
    (for_go (i := 8) (v := .int 0) (l := [.int 1]) (ρ := (qst T F v n K (some (.val (.tup [(.tup [.str z_name, .str x]), (.tup [.str z_name, .str x]), .bool false]))) (some (.val (.tup [.str z_name, .str x]))) (some (.val (.tup [.str z_name, .str x]))) x8 x9)) (ρ' := (qst T F v n (.tup [.str z_name, .str z_name, .bool false] :: K) (some (.val (.tup [(.tup [.str z_name, .str x]), (.tup [.str z_name, .str x]), .bool false]))) (some (.val (.tup [.str z_name, .str x]))) (some (.val (.tup [.str z_name, .str x]))) (some (.val (.int 0))) (some (.val (.bool false))))) (tp := [.b false]) (by kernel_rfl) (by kernel_rfl) (P := ((K : List V).length < room) ∧ false = false ∧ True) (by kernel_rfl) ⟨by (try simp only [List.length_cons]); omega, rfl, trivial⟩ (for_go (i := 8) (v := .int 1) (l := []) (ρ := (qst T F v n (.tup [.str z_name, .str z_name, .bool false] :: K) (some (.val (.tup [(.tup [.str z_name, .str x]), (.tup [.str z_name, .str x]), .bool false]))) (some (.val (.tup [.str z_name, .str x]))) (some (.val (.tup [.str z_name, .str x]))) (some (.val (.int 0))) (some (.val (.bool false))))) (ρ' := (qst T F v n (.tup [.str x, .str x, .bool false] :: (.tup [.str z_name, .str z_name, .bool false] :: K)) (some (.val (.tup [(.tup [.str z_name, .str x]), (.tup [.str z_name, .str x]), .bool false]))) (some (.val (.tup [.str z_name, .str x]))) (some (.val (.tup [.str z_name, .str x]))) (some (.val (.int 1))) (some (.val (.bool false))))) (tp := [.b false]) (by kernel_rfl) (by kernel_rfl) (P := (((.tup [.str z_name, .str z_name, .bool false] :: K) : List V).length < room) ∧ false = false ∧ True) (by kernel_rfl) ⟨by (try simp only [List.length_cons]); omega, rfl, trivial⟩ for_nil))
  whp_go false (tp := [.b false, .l .next (qst T F v n (.tup [.str x, .str x, .bool false] :: (.tup [.str z_name, .str z_name, .bool false] :: K)) (some (.val (.tup [(.tup [.str z_name, .str x]), (.tup [.str z_name, .str x]), .bool false]))) (some (.val (.tup [.str z_name, .str x]))) (some (.val (.tup [.str z_name, .str x]))) (some (.val (.int 1))) (some (.val (.bool false))))]) (ρ' := (qst T F v n (.tup [.str x, .str x, .bool false] :: (.tup [.str z_name, .str z_name, .bool false] :: K)) (some (.val (.tup [(.tup [.str z_name, .str x]), (.tup [.str z_name, .str x]), .bool false]))) (some (.val (.tup [.str z_name, .str x]))) (some (.val (.tup [.str z_name, .str x]))) (some (.val (.int 1))) (some (.val (.bool false))))) (by kernel_rfl) (P := ForOK G (d + 1) fi__law_put_right (.Name "_law_k" ⟨111,16,111,22⟩) (l__law_put_right_111 (d + 1)).xs [.int 0, .int 1] (qst T F v n K (some (.val (.tup [(.tup [.str z_name, .str x]), (.tup [.str z_name, .str x]), .bool false]))) (some (.val (.tup [.str z_name, .str x]))) (some (.val (.tup [.str z_name, .str x]))) x8 x9) .next (qst T F v n (.tup [.str x, .str x, .bool false] :: (.tup [.str z_name, .str z_name, .bool false] :: K)) (some (.val (.tup [(.tup [.str z_name, .str x]), (.tup [.str z_name, .str x]), .bool false]))) (some (.val (.tup [.str z_name, .str x]))) (some (.val (.tup [.str z_name, .str x]))) (some (.val (.int 1))) (some (.val (.bool false)))) ∧ 2 ≤ 1000000 ∧ (x == n) = false ∧ True) (by kernel_rfl) ⟨hf, by decide, h, trivial⟩ (k _ _ _ _ _)
theorem r_fn0 {x : List Nat} {a b : V} {K : List V} (h : (x == n) = false) (hK : K.length + 4 < room) (k : ∀ x5 x6 x7 x8 x9, QW (d + 1) (qst T F v n (.tup [a, b, .bool false] :: (.tup [.str x, .str x, .bool false] :: (.tup [.str z_fun, .str z_fun, .bool false] :: K))) x5 x6 x7 x8 x9) Φ) : QW (d + 1) (qst T F v n ((.tup [(.tup [.str z_fun, .str x, a]), (.tup [.str z_fun, .str x, b]), .bool false]) :: K) x5 x6 x7 x8 x9) Φ :=
  have hf : ForOK G (d + 1) fi__law_put_right (.Name "_law_k" ⟨111,16,111,22⟩) (l__law_put_right_111 (d + 1)).xs [.int 0, .int 1, .int 2] (qst T F v n K (some (.val (.tup [(.tup [.str z_fun, .str x, a]), (.tup [.str z_fun, .str x, b]), .bool false]))) (some (.val (.tup [.str z_fun, .str x, a]))) (some (.val (.tup [.str z_fun, .str x, b]))) x8 x9) .next (qst T F v n (.tup [a, b, .bool false] :: (.tup [.str x, .str x, .bool false] :: (.tup [.str z_fun, .str z_fun, .bool false] :: K))) (some (.val (.tup [(.tup [.str z_fun, .str x, a]), (.tup [.str z_fun, .str x, b]), .bool false]))) (some (.val (.tup [.str z_fun, .str x, a]))) (some (.val (.tup [.str z_fun, .str x, b]))) (some (.val (.int 2))) (some (.val (.bool (x == n))))) :=
    (for_go (i := 8) (v := .int 0) (l := [.int 1, .int 2]) (ρ := (qst T F v n K (some (.val (.tup [(.tup [.str z_fun, .str x, a]), (.tup [.str z_fun, .str x, b]), .bool false]))) (some (.val (.tup [.str z_fun, .str x, a]))) (some (.val (.tup [.str z_fun, .str x, b]))) x8 x9)) (ρ' := (qst T F v n (.tup [.str z_fun, .str z_fun, .bool false] :: K) (some (.val (.tup [(.tup [.str z_fun, .str x, a]), (.tup [.str z_fun, .str x, b]), .bool false]))) (some (.val (.tup [.str z_fun, .str x, a]))) (some (.val (.tup [.str z_fun, .str x, b]))) (some (.val (.int 0))) (some (.val (.bool (x == n)))))) (tp := [.b false]) (by kernel_rfl) (by kernel_rfl) (P := ((K : List V).length < room) ∧ (x == n) = false ∧ True) (by kernel_rfl) ⟨by (try simp only [List.length_cons]); omega, h, trivial⟩ (for_go (i := 8) (v := .int 1) (l := [.int 2]) (ρ := (qst T F v n (.tup [.str z_fun, .str z_fun, .bool false] :: K) (some (.val (.tup [(.tup [.str z_fun, .str x, a]), (.tup [.str z_fun, .str x, b]), .bool false]))) (some (.val (.tup [.str z_fun, .str x, a]))) (some (.val (.tup [.str z_fun, .str x, b]))) (some (.val (.int 0))) (some (.val (.bool (x == n)))))) (ρ' := (qst T F v n (.tup [.str x, .str x, .bool false] :: (.tup [.str z_fun, .str z_fun, .bool false] :: K)) (some (.val (.tup [(.tup [.str z_fun, .str x, a]), (.tup [.str z_fun, .str x, b]), .bool false]))) (some (.val (.tup [.str z_fun, .str x, a]))) (some (.val (.tup [.str z_fun, .str x, b]))) (some (.val (.int 1))) (some (.val (.bool (x == n)))))) (tp := [.b false]) (by kernel_rfl) (by kernel_rfl) (P := (((.tup [.str z_fun, .str z_fun, .bool false] :: K) : List V).length < room) ∧ (x == n) = false ∧ True) (by kernel_rfl) ⟨by (try simp only [List.length_cons]); omega, h, trivial⟩ (for_go (i := 8) (v := .int 2) (l := []) (ρ := (qst T F v n (.tup [.str x, .str x, .bool false] :: (.tup [.str z_fun, .str z_fun, .bool false] :: K)) (some (.val (.tup [(.tup [.str z_fun, .str x, a]), (.tup [.str z_fun, .str x, b]), .bool false]))) (some (.val (.tup [.str z_fun, .str x, a]))) (some (.val (.tup [.str z_fun, .str x, b]))) (some (.val (.int 1))) (some (.val (.bool (x == n)))))) (ρ' := (qst T F v n (.tup [a, b, .bool false] :: (.tup [.str x, .str x, .bool false] :: (.tup [.str z_fun, .str z_fun, .bool false] :: K))) (some (.val (.tup [(.tup [.str z_fun, .str x, a]), (.tup [.str z_fun, .str x, b]), .bool false]))) (some (.val (.tup [.str z_fun, .str x, a]))) (some (.val (.tup [.str z_fun, .str x, b]))) (some (.val (.int 2))) (some (.val (.bool (x == n)))))) (tp := [.b false]) (by kernel_rfl) (by kernel_rfl) (P := (((.tup [.str x, .str x, .bool false] :: (.tup [.str z_fun, .str z_fun, .bool false] :: K)) : List V).length < room) ∧ (x == n) = false ∧ True) (by kernel_rfl) ⟨by (try simp only [List.length_cons]); omega, h, trivial⟩ for_nil)))
  whp_go false (tp := [.l .next (qst T F v n (.tup [a, b, .bool false] :: (.tup [.str x, .str x, .bool false] :: (.tup [.str z_fun, .str z_fun, .bool false] :: K))) (some (.val (.tup [(.tup [.str z_fun, .str x, a]), (.tup [.str z_fun, .str x, b]), .bool false]))) (some (.val (.tup [.str z_fun, .str x, a]))) (some (.val (.tup [.str z_fun, .str x, b]))) (some (.val (.int 2))) (some (.val (.bool (x == n)))))]) (ρ' := (qst T F v n (.tup [a, b, .bool false] :: (.tup [.str x, .str x, .bool false] :: (.tup [.str z_fun, .str z_fun, .bool false] :: K))) (some (.val (.tup [(.tup [.str z_fun, .str x, a]), (.tup [.str z_fun, .str x, b]), .bool false]))) (some (.val (.tup [.str z_fun, .str x, a]))) (some (.val (.tup [.str z_fun, .str x, b]))) (some (.val (.int 2))) (some (.val (.bool (x == n)))))) (by kernel_rfl) (P := ForOK G (d + 1) fi__law_put_right (.Name "_law_k" ⟨111,16,111,22⟩) (l__law_put_right_111 (d + 1)).xs [.int 0, .int 1, .int 2] (qst T F v n K (some (.val (.tup [(.tup [.str z_fun, .str x, a]), (.tup [.str z_fun, .str x, b]), .bool false]))) (some (.val (.tup [.str z_fun, .str x, a]))) (some (.val (.tup [.str z_fun, .str x, b]))) x8 x9) .next (qst T F v n (.tup [a, b, .bool false] :: (.tup [.str x, .str x, .bool false] :: (.tup [.str z_fun, .str z_fun, .bool false] :: K))) (some (.val (.tup [(.tup [.str z_fun, .str x, a]), (.tup [.str z_fun, .str x, b]), .bool false]))) (some (.val (.tup [.str z_fun, .str x, a]))) (some (.val (.tup [.str z_fun, .str x, b]))) (some (.val (.int 2))) (some (.val (.bool (x == n))))) ∧ 3 ≤ 1000000 ∧ True) (by kernel_rfl) ⟨hf, by decide, trivial⟩ (by rw [h]; exact k _ _ _ _ _)
theorem r_fn1 {x : List Nat} {a b : V} {K : List V} (h : (x == n) = true) (hK : K.length + 4 < room) (k : ∀ x5 x6 x7 x8 x9, QW (d + 1) (qst T F v n (.tup [a, b, .bool true] :: (.tup [.str x, .str x, .bool true] :: (.tup [.str z_fun, .str z_fun, .bool true] :: K))) x5 x6 x7 x8 x9) Φ) : QW (d + 1) (qst T F v n ((.tup [(.tup [.str z_fun, .str x, a]), (.tup [.str z_fun, .str x, b]), .bool false]) :: K) x5 x6 x7 x8 x9) Φ :=
  have hf : ForOK G (d + 1) fi__law_put_right (.Name "_law_k" ⟨111,16,111,22⟩) (l__law_put_right_111 (d + 1)).xs [.int 0, .int 1, .int 2] (qst T F v n K (some (.val (.tup [(.tup [.str z_fun, .str x, a]), (.tup [.str z_fun, .str x, b]), .bool false]))) (some (.val (.tup [.str z_fun, .str x, a]))) (some (.val (.tup [.str z_fun, .str x, b]))) x8 x9) .next (qst T F v n (.tup [a, b, .bool (x == n)] :: (.tup [.str x, .str x, .bool (x == n)] :: (.tup [.str z_fun, .str z_fun, .bool (x == n)] :: K))) (some (.val (.tup [(.tup [.str z_fun, .str x, a]), (.tup [.str z_fun, .str x, b]), .bool false]))) (some (.val (.tup [.str z_fun, .str x, a]))) (some (.val (.tup [.str z_fun, .str x, b]))) (some (.val (.int 2))) (some (.val (.bool (x == n))))) :=
    (for_go (i := 8) (v := .int 0) (l := [.int 1, .int 2]) (ρ := (qst T F v n K (some (.val (.tup [(.tup [.str z_fun, .str x, a]), (.tup [.str z_fun, .str x, b]), .bool false]))) (some (.val (.tup [.str z_fun, .str x, a]))) (some (.val (.tup [.str z_fun, .str x, b]))) x8 x9)) (ρ' := (qst T F v n (.tup [.str z_fun, .str z_fun, .bool (x == n)] :: K) (some (.val (.tup [(.tup [.str z_fun, .str x, a]), (.tup [.str z_fun, .str x, b]), .bool false]))) (some (.val (.tup [.str z_fun, .str x, a]))) (some (.val (.tup [.str z_fun, .str x, b]))) (some (.val (.int 0))) (some (.val (.bool (x == n)))))) (tp := [.b true]) (by kernel_rfl) (by kernel_rfl) (P := ((K : List V).length < room) ∧ (x == n) = true ∧ True) (by kernel_rfl) ⟨by (try simp only [List.length_cons]); omega, h, trivial⟩ (for_go (i := 8) (v := .int 1) (l := [.int 2]) (ρ := (qst T F v n (.tup [.str z_fun, .str z_fun, .bool (x == n)] :: K) (some (.val (.tup [(.tup [.str z_fun, .str x, a]), (.tup [.str z_fun, .str x, b]), .bool false]))) (some (.val (.tup [.str z_fun, .str x, a]))) (some (.val (.tup [.str z_fun, .str x, b]))) (some (.val (.int 0))) (some (.val (.bool (x == n)))))) (ρ' := (qst T F v n (.tup [.str x, .str x, .bool (x == n)] :: (.tup [.str z_fun, .str z_fun, .bool (x == n)] :: K)) (some (.val (.tup [(.tup [.str z_fun, .str x, a]), (.tup [.str z_fun, .str x, b]), .bool false]))) (some (.val (.tup [.str z_fun, .str x, a]))) (some (.val (.tup [.str z_fun, .str x, b]))) (some (.val (.int 1))) (some (.val (.bool (x == n)))))) (tp := [.b true]) (by kernel_rfl) (by kernel_rfl) (P := (((.tup [.str z_fun, .str z_fun, .bool (x == n)] :: K) : List V).length < room) ∧ (x == n) = true ∧ True) (by kernel_rfl) ⟨by (try simp only [List.length_cons]); omega, h, trivial⟩ (for_go (i := 8) (v := .int 2) (l := []) (ρ := (qst T F v n (.tup [.str x, .str x, .bool (x == n)] :: (.tup [.str z_fun, .str z_fun, .bool (x == n)] :: K)) (some (.val (.tup [(.tup [.str z_fun, .str x, a]), (.tup [.str z_fun, .str x, b]), .bool false]))) (some (.val (.tup [.str z_fun, .str x, a]))) (some (.val (.tup [.str z_fun, .str x, b]))) (some (.val (.int 1))) (some (.val (.bool (x == n)))))) (ρ' := (qst T F v n (.tup [a, b, .bool (x == n)] :: (.tup [.str x, .str x, .bool (x == n)] :: (.tup [.str z_fun, .str z_fun, .bool (x == n)] :: K))) (some (.val (.tup [(.tup [.str z_fun, .str x, a]), (.tup [.str z_fun, .str x, b]), .bool false]))) (some (.val (.tup [.str z_fun, .str x, a]))) (some (.val (.tup [.str z_fun, .str x, b]))) (some (.val (.int 2))) (some (.val (.bool (x == n)))))) (tp := [.b true]) (by kernel_rfl) (by kernel_rfl) (P := (((.tup [.str x, .str x, .bool (x == n)] :: (.tup [.str z_fun, .str z_fun, .bool (x == n)] :: K)) : List V).length < room) ∧ (x == n) = true ∧ True) (by kernel_rfl) ⟨by (try simp only [List.length_cons]); omega, h, trivial⟩ for_nil)))
  whp_go false (tp := [.l .next (qst T F v n (.tup [a, b, .bool (x == n)] :: (.tup [.str x, .str x, .bool (x == n)] :: (.tup [.str z_fun, .str z_fun, .bool (x == n)] :: K))) (some (.val (.tup [(.tup [.str z_fun, .str x, a]), (.tup [.str z_fun, .str x, b]), .bool false]))) (some (.val (.tup [.str z_fun, .str x, a]))) (some (.val (.tup [.str z_fun, .str x, b]))) (some (.val (.int 2))) (some (.val (.bool (x == n)))))]) (ρ' := (qst T F v n (.tup [a, b, .bool (x == n)] :: (.tup [.str x, .str x, .bool (x == n)] :: (.tup [.str z_fun, .str z_fun, .bool (x == n)] :: K))) (some (.val (.tup [(.tup [.str z_fun, .str x, a]), (.tup [.str z_fun, .str x, b]), .bool false]))) (some (.val (.tup [.str z_fun, .str x, a]))) (some (.val (.tup [.str z_fun, .str x, b]))) (some (.val (.int 2))) (some (.val (.bool (x == n)))))) (by kernel_rfl) (P := ForOK G (d + 1) fi__law_put_right (.Name "_law_k" ⟨111,16,111,22⟩) (l__law_put_right_111 (d + 1)).xs [.int 0, .int 1, .int 2] (qst T F v n K (some (.val (.tup [(.tup [.str z_fun, .str x, a]), (.tup [.str z_fun, .str x, b]), .bool false]))) (some (.val (.tup [.str z_fun, .str x, a]))) (some (.val (.tup [.str z_fun, .str x, b]))) x8 x9) .next (qst T F v n (.tup [a, b, .bool (x == n)] :: (.tup [.str x, .str x, .bool (x == n)] :: (.tup [.str z_fun, .str z_fun, .bool (x == n)] :: K))) (some (.val (.tup [(.tup [.str z_fun, .str x, a]), (.tup [.str z_fun, .str x, b]), .bool false]))) (some (.val (.tup [.str z_fun, .str x, a]))) (some (.val (.tup [.str z_fun, .str x, b]))) (some (.val (.int 2))) (some (.val (.bool (x == n))))) ∧ 3 ≤ 1000000 ∧ True) (by kernel_rfl) ⟨hf, by decide, trivial⟩ (by rw [h]; exact k _ _ _ _ _)
theorem r_call {a b a1 b1 : V} {K : List V} (hK : K.length + 4 < room) (k : ∀ x5 x6 x7 x8 x9, QW (d + 1) (qst T F v n (.tup [b, b1, .bool false] :: (.tup [a, a1, .bool false] :: (.tup [.str z_call, .str z_call, .bool false] :: K))) x5 x6 x7 x8 x9) Φ) : QW (d + 1) (qst T F v n ((.tup [(.tup [.str z_call, a, b]), (.tup [.str z_call, a1, b1]), .bool false]) :: K) x5 x6 x7 x8 x9) Φ :=
  have hf : ForOK G (d + 1) fi__law_put_right (.Name "_law_k" ⟨111,16,111,22⟩) (l__law_put_right_111 (d + 1)).xs [.int 0, .int 1, .int 2] (qst T F v n K (some (.val (.tup [(.tup [.str z_call, a, b]), (.tup [.str z_call, a1, b1]), .bool false]))) (some (.val (.tup [.str z_call, a, b]))) (some (.val (.tup [.str z_call, a1, b1]))) x8 x9) .next (qst T F v n (.tup [b, b1, .bool false] :: (.tup [a, a1, .bool false] :: (.tup [.str z_call, .str z_call, .bool false] :: K))) (some (.val (.tup [(.tup [.str z_call, a, b]), (.tup [.str z_call, a1, b1]), .bool false]))) (some (.val (.tup [.str z_call, a, b]))) (some (.val (.tup [.str z_call, a1, b1]))) (some (.val (.int 2))) (some (.val (.bool false)))) :=
    (for_go (i := 8) (v := .int 0) (l := [.int 1, .int 2]) (ρ := (qst T F v n K (some (.val (.tup [(.tup [.str z_call, a, b]), (.tup [.str z_call, a1, b1]), .bool false]))) (some (.val (.tup [.str z_call, a, b]))) (some (.val (.tup [.str z_call, a1, b1]))) x8 x9)) (ρ' := (qst T F v n (.tup [.str z_call, .str z_call, .bool false] :: K) (some (.val (.tup [(.tup [.str z_call, a, b]), (.tup [.str z_call, a1, b1]), .bool false]))) (some (.val (.tup [.str z_call, a, b]))) (some (.val (.tup [.str z_call, a1, b1]))) (some (.val (.int 0))) (some (.val (.bool false))))) (tp := [.b false]) (by kernel_rfl) (by kernel_rfl) (P := ((K : List V).length < room) ∧ false = false ∧ True) (by kernel_rfl) ⟨by (try simp only [List.length_cons]); omega, rfl, trivial⟩ (for_go (i := 8) (v := .int 1) (l := [.int 2]) (ρ := (qst T F v n (.tup [.str z_call, .str z_call, .bool false] :: K) (some (.val (.tup [(.tup [.str z_call, a, b]), (.tup [.str z_call, a1, b1]), .bool false]))) (some (.val (.tup [.str z_call, a, b]))) (some (.val (.tup [.str z_call, a1, b1]))) (some (.val (.int 0))) (some (.val (.bool false))))) (ρ' := (qst T F v n (.tup [a, a1, .bool false] :: (.tup [.str z_call, .str z_call, .bool false] :: K)) (some (.val (.tup [(.tup [.str z_call, a, b]), (.tup [.str z_call, a1, b1]), .bool false]))) (some (.val (.tup [.str z_call, a, b]))) (some (.val (.tup [.str z_call, a1, b1]))) (some (.val (.int 1))) (some (.val (.bool false))))) (tp := [.b false]) (by kernel_rfl) (by kernel_rfl) (P := (((.tup [.str z_call, .str z_call, .bool false] :: K) : List V).length < room) ∧ false = false ∧ True) (by kernel_rfl) ⟨by (try simp only [List.length_cons]); omega, rfl, trivial⟩ (for_go (i := 8) (v := .int 2) (l := []) (ρ := (qst T F v n (.tup [a, a1, .bool false] :: (.tup [.str z_call, .str z_call, .bool false] :: K)) (some (.val (.tup [(.tup [.str z_call, a, b]), (.tup [.str z_call, a1, b1]), .bool false]))) (some (.val (.tup [.str z_call, a, b]))) (some (.val (.tup [.str z_call, a1, b1]))) (some (.val (.int 1))) (some (.val (.bool false))))) (ρ' := (qst T F v n (.tup [b, b1, .bool false] :: (.tup [a, a1, .bool false] :: (.tup [.str z_call, .str z_call, .bool false] :: K))) (some (.val (.tup [(.tup [.str z_call, a, b]), (.tup [.str z_call, a1, b1]), .bool false]))) (some (.val (.tup [.str z_call, a, b]))) (some (.val (.tup [.str z_call, a1, b1]))) (some (.val (.int 2))) (some (.val (.bool false))))) (tp := [.b false]) (by kernel_rfl) (by kernel_rfl) (P := (((.tup [a, a1, .bool false] :: (.tup [.str z_call, .str z_call, .bool false] :: K)) : List V).length < room) ∧ false = false ∧ True) (by kernel_rfl) ⟨by (try simp only [List.length_cons]); omega, rfl, trivial⟩ for_nil)))
  whp_go false (tp := [.l .next (qst T F v n (.tup [b, b1, .bool false] :: (.tup [a, a1, .bool false] :: (.tup [.str z_call, .str z_call, .bool false] :: K))) (some (.val (.tup [(.tup [.str z_call, a, b]), (.tup [.str z_call, a1, b1]), .bool false]))) (some (.val (.tup [.str z_call, a, b]))) (some (.val (.tup [.str z_call, a1, b1]))) (some (.val (.int 2))) (some (.val (.bool false))))]) (ρ' := (qst T F v n (.tup [b, b1, .bool false] :: (.tup [a, a1, .bool false] :: (.tup [.str z_call, .str z_call, .bool false] :: K))) (some (.val (.tup [(.tup [.str z_call, a, b]), (.tup [.str z_call, a1, b1]), .bool false]))) (some (.val (.tup [.str z_call, a, b]))) (some (.val (.tup [.str z_call, a1, b1]))) (some (.val (.int 2))) (some (.val (.bool false))))) (by kernel_rfl) (P := ForOK G (d + 1) fi__law_put_right (.Name "_law_k" ⟨111,16,111,22⟩) (l__law_put_right_111 (d + 1)).xs [.int 0, .int 1, .int 2] (qst T F v n K (some (.val (.tup [(.tup [.str z_call, a, b]), (.tup [.str z_call, a1, b1]), .bool false]))) (some (.val (.tup [.str z_call, a, b]))) (some (.val (.tup [.str z_call, a1, b1]))) x8 x9) .next (qst T F v n (.tup [b, b1, .bool false] :: (.tup [a, a1, .bool false] :: (.tup [.str z_call, .str z_call, .bool false] :: K))) (some (.val (.tup [(.tup [.str z_call, a, b]), (.tup [.str z_call, a1, b1]), .bool false]))) (some (.val (.tup [.str z_call, a, b]))) (some (.val (.tup [.str z_call, a1, b1]))) (some (.val (.int 2))) (some (.val (.bool false)))) ∧ 3 ≤ 1000000 ∧ True) (by kernel_rfl) ⟨hf, by decide, trivial⟩ (k _ _ _ _ _)
theorem r_plus {a b a1 b1 : V} {K : List V} (hK : K.length + 4 < room) (k : ∀ x5 x6 x7 x8 x9, QW (d + 1) (qst T F v n (.tup [b, b1, .bool false] :: (.tup [a, a1, .bool false] :: (.tup [.str z_plus, .str z_plus, .bool false] :: K))) x5 x6 x7 x8 x9) Φ) : QW (d + 1) (qst T F v n ((.tup [(.tup [.str z_plus, a, b]), (.tup [.str z_plus, a1, b1]), .bool false]) :: K) x5 x6 x7 x8 x9) Φ :=
  have hf : ForOK G (d + 1) fi__law_put_right (.Name "_law_k" ⟨111,16,111,22⟩) (l__law_put_right_111 (d + 1)).xs [.int 0, .int 1, .int 2] (qst T F v n K (some (.val (.tup [(.tup [.str z_plus, a, b]), (.tup [.str z_plus, a1, b1]), .bool false]))) (some (.val (.tup [.str z_plus, a, b]))) (some (.val (.tup [.str z_plus, a1, b1]))) x8 x9) .next (qst T F v n (.tup [b, b1, .bool false] :: (.tup [a, a1, .bool false] :: (.tup [.str z_plus, .str z_plus, .bool false] :: K))) (some (.val (.tup [(.tup [.str z_plus, a, b]), (.tup [.str z_plus, a1, b1]), .bool false]))) (some (.val (.tup [.str z_plus, a, b]))) (some (.val (.tup [.str z_plus, a1, b1]))) (some (.val (.int 2))) (some (.val (.bool false)))) :=
    (for_go (i := 8) (v := .int 0) (l := [.int 1, .int 2]) (ρ := (qst T F v n K (some (.val (.tup [(.tup [.str z_plus, a, b]), (.tup [.str z_plus, a1, b1]), .bool false]))) (some (.val (.tup [.str z_plus, a, b]))) (some (.val (.tup [.str z_plus, a1, b1]))) x8 x9)) (ρ' := (qst T F v n (.tup [.str z_plus, .str z_plus, .bool false] :: K) (some (.val (.tup [(.tup [.str z_plus, a, b]), (.tup [.str z_plus, a1, b1]), .bool false]))) (some (.val (.tup [.str z_plus, a, b]))) (some (.val (.tup [.str z_plus, a1, b1]))) (some (.val (.int 0))) (some (.val (.bool false))))) (tp := [.b false]) (by kernel_rfl) (by kernel_rfl) (P := ((K : List V).length < room) ∧ false = false ∧ True) (by kernel_rfl) ⟨by (try simp only [List.length_cons]); omega, rfl, trivial⟩ (for_go (i := 8) (v := .int 1) (l := [.int 2]) (ρ := (qst T F v n (.tup [.str z_plus, .str z_plus, .bool false] :: K) (some (.val (.tup [(.tup [.str z_plus, a, b]), (.tup [.str z_plus, a1, b1]), .bool false]))) (some (.val (.tup [.str z_plus, a, b]))) (some (.val (.tup [.str z_plus, a1, b1]))) (some (.val (.int 0))) (some (.val (.bool false))))) (ρ' := (qst T F v n (.tup [a, a1, .bool false] :: (.tup [.str z_plus, .str z_plus, .bool false] :: K)) (some (.val (.tup [(.tup [.str z_plus, a, b]), (.tup [.str z_plus, a1, b1]), .bool false]))) (some (.val (.tup [.str z_plus, a, b]))) (some (.val (.tup [.str z_plus, a1, b1]))) (some (.val (.int 1))) (some (.val (.bool false))))) (tp := [.b false]) (by kernel_rfl) (by kernel_rfl) (P := (((.tup [.str z_plus, .str z_plus, .bool false] :: K) : List V).length < room) ∧ false = false ∧ True) (by kernel_rfl) ⟨by (try simp only [List.length_cons]); omega, rfl, trivial⟩ (for_go (i := 8) (v := .int 2) (l := []) (ρ := (qst T F v n (.tup [a, a1, .bool false] :: (.tup [.str z_plus, .str z_plus, .bool false] :: K)) (some (.val (.tup [(.tup [.str z_plus, a, b]), (.tup [.str z_plus, a1, b1]), .bool false]))) (some (.val (.tup [.str z_plus, a, b]))) (some (.val (.tup [.str z_plus, a1, b1]))) (some (.val (.int 1))) (some (.val (.bool false))))) (ρ' := (qst T F v n (.tup [b, b1, .bool false] :: (.tup [a, a1, .bool false] :: (.tup [.str z_plus, .str z_plus, .bool false] :: K))) (some (.val (.tup [(.tup [.str z_plus, a, b]), (.tup [.str z_plus, a1, b1]), .bool false]))) (some (.val (.tup [.str z_plus, a, b]))) (some (.val (.tup [.str z_plus, a1, b1]))) (some (.val (.int 2))) (some (.val (.bool false))))) (tp := [.b false]) (by kernel_rfl) (by kernel_rfl) (P := (((.tup [a, a1, .bool false] :: (.tup [.str z_plus, .str z_plus, .bool false] :: K)) : List V).length < room) ∧ false = false ∧ True) (by kernel_rfl) ⟨by (try simp only [List.length_cons]); omega, rfl, trivial⟩ for_nil)))
  whp_go false (tp := [.l .next (qst T F v n (.tup [b, b1, .bool false] :: (.tup [a, a1, .bool false] :: (.tup [.str z_plus, .str z_plus, .bool false] :: K))) (some (.val (.tup [(.tup [.str z_plus, a, b]), (.tup [.str z_plus, a1, b1]), .bool false]))) (some (.val (.tup [.str z_plus, a, b]))) (some (.val (.tup [.str z_plus, a1, b1]))) (some (.val (.int 2))) (some (.val (.bool false))))]) (ρ' := (qst T F v n (.tup [b, b1, .bool false] :: (.tup [a, a1, .bool false] :: (.tup [.str z_plus, .str z_plus, .bool false] :: K))) (some (.val (.tup [(.tup [.str z_plus, a, b]), (.tup [.str z_plus, a1, b1]), .bool false]))) (some (.val (.tup [.str z_plus, a, b]))) (some (.val (.tup [.str z_plus, a1, b1]))) (some (.val (.int 2))) (some (.val (.bool false))))) (by kernel_rfl) (P := ForOK G (d + 1) fi__law_put_right (.Name "_law_k" ⟨111,16,111,22⟩) (l__law_put_right_111 (d + 1)).xs [.int 0, .int 1, .int 2] (qst T F v n K (some (.val (.tup [(.tup [.str z_plus, a, b]), (.tup [.str z_plus, a1, b1]), .bool false]))) (some (.val (.tup [.str z_plus, a, b]))) (some (.val (.tup [.str z_plus, a1, b1]))) x8 x9) .next (qst T F v n (.tup [b, b1, .bool false] :: (.tup [a, a1, .bool false] :: (.tup [.str z_plus, .str z_plus, .bool false] :: K))) (some (.val (.tup [(.tup [.str z_plus, a, b]), (.tup [.str z_plus, a1, b1]), .bool false]))) (some (.val (.tup [.str z_plus, a, b]))) (some (.val (.tup [.str z_plus, a1, b1]))) (some (.val (.int 2))) (some (.val (.bool false)))) ∧ 3 ≤ 1000000 ∧ True) (by kernel_rfl) ⟨hf, by decide, trivial⟩ (k _ _ _ _ _)
theorem r_less {a b a1 b1 : V} {K : List V} (hK : K.length + 4 < room) (k : ∀ x5 x6 x7 x8 x9, QW (d + 1) (qst T F v n (.tup [b, b1, .bool false] :: (.tup [a, a1, .bool false] :: (.tup [.str z_less, .str z_less, .bool false] :: K))) x5 x6 x7 x8 x9) Φ) : QW (d + 1) (qst T F v n ((.tup [(.tup [.str z_less, a, b]), (.tup [.str z_less, a1, b1]), .bool false]) :: K) x5 x6 x7 x8 x9) Φ :=
  have hf : ForOK G (d + 1) fi__law_put_right (.Name "_law_k" ⟨111,16,111,22⟩) (l__law_put_right_111 (d + 1)).xs [.int 0, .int 1, .int 2] (qst T F v n K (some (.val (.tup [(.tup [.str z_less, a, b]), (.tup [.str z_less, a1, b1]), .bool false]))) (some (.val (.tup [.str z_less, a, b]))) (some (.val (.tup [.str z_less, a1, b1]))) x8 x9) .next (qst T F v n (.tup [b, b1, .bool false] :: (.tup [a, a1, .bool false] :: (.tup [.str z_less, .str z_less, .bool false] :: K))) (some (.val (.tup [(.tup [.str z_less, a, b]), (.tup [.str z_less, a1, b1]), .bool false]))) (some (.val (.tup [.str z_less, a, b]))) (some (.val (.tup [.str z_less, a1, b1]))) (some (.val (.int 2))) (some (.val (.bool false)))) :=
    (for_go (i := 8) (v := .int 0) (l := [.int 1, .int 2]) (ρ := (qst T F v n K (some (.val (.tup [(.tup [.str z_less, a, b]), (.tup [.str z_less, a1, b1]), .bool false]))) (some (.val (.tup [.str z_less, a, b]))) (some (.val (.tup [.str z_less, a1, b1]))) x8 x9)) (ρ' := (qst T F v n (.tup [.str z_less, .str z_less, .bool false] :: K) (some (.val (.tup [(.tup [.str z_less, a, b]), (.tup [.str z_less, a1, b1]), .bool false]))) (some (.val (.tup [.str z_less, a, b]))) (some (.val (.tup [.str z_less, a1, b1]))) (some (.val (.int 0))) (some (.val (.bool false))))) (tp := [.b false]) (by kernel_rfl) (by kernel_rfl) (P := ((K : List V).length < room) ∧ false = false ∧ True) (by kernel_rfl) ⟨by (try simp only [List.length_cons]); omega, rfl, trivial⟩ (for_go (i := 8) (v := .int 1) (l := [.int 2]) (ρ := (qst T F v n (.tup [.str z_less, .str z_less, .bool false] :: K) (some (.val (.tup [(.tup [.str z_less, a, b]), (.tup [.str z_less, a1, b1]), .bool false]))) (some (.val (.tup [.str z_less, a, b]))) (some (.val (.tup [.str z_less, a1, b1]))) (some (.val (.int 0))) (some (.val (.bool false))))) (ρ' := (qst T F v n (.tup [a, a1, .bool false] :: (.tup [.str z_less, .str z_less, .bool false] :: K)) (some (.val (.tup [(.tup [.str z_less, a, b]), (.tup [.str z_less, a1, b1]), .bool false]))) (some (.val (.tup [.str z_less, a, b]))) (some (.val (.tup [.str z_less, a1, b1]))) (some (.val (.int 1))) (some (.val (.bool false))))) (tp := [.b false]) (by kernel_rfl) (by kernel_rfl) (P := (((.tup [.str z_less, .str z_less, .bool false] :: K) : List V).length < room) ∧ false = false ∧ True) (by kernel_rfl) ⟨by (try simp only [List.length_cons]); omega, rfl, trivial⟩ (for_go (i := 8) (v := .int 2) (l := []) (ρ := (qst T F v n (.tup [a, a1, .bool false] :: (.tup [.str z_less, .str z_less, .bool false] :: K)) (some (.val (.tup [(.tup [.str z_less, a, b]), (.tup [.str z_less, a1, b1]), .bool false]))) (some (.val (.tup [.str z_less, a, b]))) (some (.val (.tup [.str z_less, a1, b1]))) (some (.val (.int 1))) (some (.val (.bool false))))) (ρ' := (qst T F v n (.tup [b, b1, .bool false] :: (.tup [a, a1, .bool false] :: (.tup [.str z_less, .str z_less, .bool false] :: K))) (some (.val (.tup [(.tup [.str z_less, a, b]), (.tup [.str z_less, a1, b1]), .bool false]))) (some (.val (.tup [.str z_less, a, b]))) (some (.val (.tup [.str z_less, a1, b1]))) (some (.val (.int 2))) (some (.val (.bool false))))) (tp := [.b false]) (by kernel_rfl) (by kernel_rfl) (P := (((.tup [a, a1, .bool false] :: (.tup [.str z_less, .str z_less, .bool false] :: K)) : List V).length < room) ∧ false = false ∧ True) (by kernel_rfl) ⟨by (try simp only [List.length_cons]); omega, rfl, trivial⟩ for_nil)))
  whp_go false (tp := [.l .next (qst T F v n (.tup [b, b1, .bool false] :: (.tup [a, a1, .bool false] :: (.tup [.str z_less, .str z_less, .bool false] :: K))) (some (.val (.tup [(.tup [.str z_less, a, b]), (.tup [.str z_less, a1, b1]), .bool false]))) (some (.val (.tup [.str z_less, a, b]))) (some (.val (.tup [.str z_less, a1, b1]))) (some (.val (.int 2))) (some (.val (.bool false))))]) (ρ' := (qst T F v n (.tup [b, b1, .bool false] :: (.tup [a, a1, .bool false] :: (.tup [.str z_less, .str z_less, .bool false] :: K))) (some (.val (.tup [(.tup [.str z_less, a, b]), (.tup [.str z_less, a1, b1]), .bool false]))) (some (.val (.tup [.str z_less, a, b]))) (some (.val (.tup [.str z_less, a1, b1]))) (some (.val (.int 2))) (some (.val (.bool false))))) (by kernel_rfl) (P := ForOK G (d + 1) fi__law_put_right (.Name "_law_k" ⟨111,16,111,22⟩) (l__law_put_right_111 (d + 1)).xs [.int 0, .int 1, .int 2] (qst T F v n K (some (.val (.tup [(.tup [.str z_less, a, b]), (.tup [.str z_less, a1, b1]), .bool false]))) (some (.val (.tup [.str z_less, a, b]))) (some (.val (.tup [.str z_less, a1, b1]))) x8 x9) .next (qst T F v n (.tup [b, b1, .bool false] :: (.tup [a, a1, .bool false] :: (.tup [.str z_less, .str z_less, .bool false] :: K))) (some (.val (.tup [(.tup [.str z_less, a, b]), (.tup [.str z_less, a1, b1]), .bool false]))) (some (.val (.tup [.str z_less, a, b]))) (some (.val (.tup [.str z_less, a1, b1]))) (some (.val (.int 2))) (some (.val (.bool false)))) ∧ 3 ≤ 1000000 ∧ True) (by kernel_rfl) ⟨hf, by decide, trivial⟩ (k _ _ _ _ _)
theorem r_ite {c a b c1 a1 b1 : V} {K : List V} (hK : K.length + 4 < room) (k : ∀ x5 x6 x7 x8 x9, QW (d + 1) (qst T F v n (.tup [b, b1, .bool false] :: (.tup [a, a1, .bool false] :: (.tup [c, c1, .bool false] :: (.tup [.str z_if, .str z_if, .bool false] :: K)))) x5 x6 x7 x8 x9) Φ) : QW (d + 1) (qst T F v n ((.tup [(.tup [.str z_if, c, a, b]), (.tup [.str z_if, c1, a1, b1]), .bool false]) :: K) x5 x6 x7 x8 x9) Φ :=
  have hf : ForOK G (d + 1) fi__law_put_right (.Name "_law_k" ⟨111,16,111,22⟩) (l__law_put_right_111 (d + 1)).xs [.int 0, .int 1, .int 2, .int 3] (qst T F v n K (some (.val (.tup [(.tup [.str z_if, c, a, b]), (.tup [.str z_if, c1, a1, b1]), .bool false]))) (some (.val (.tup [.str z_if, c, a, b]))) (some (.val (.tup [.str z_if, c1, a1, b1]))) x8 x9) .next (qst T F v n (.tup [b, b1, .bool false] :: (.tup [a, a1, .bool false] :: (.tup [c, c1, .bool false] :: (.tup [.str z_if, .str z_if, .bool false] :: K)))) (some (.val (.tup [(.tup [.str z_if, c, a, b]), (.tup [.str z_if, c1, a1, b1]), .bool false]))) (some (.val (.tup [.str z_if, c, a, b]))) (some (.val (.tup [.str z_if, c1, a1, b1]))) (some (.val (.int 3))) (some (.val (.bool false)))) :=
    (for_go (i := 8) (v := .int 0) (l := [.int 1, .int 2, .int 3]) (ρ := (qst T F v n K (some (.val (.tup [(.tup [.str z_if, c, a, b]), (.tup [.str z_if, c1, a1, b1]), .bool false]))) (some (.val (.tup [.str z_if, c, a, b]))) (some (.val (.tup [.str z_if, c1, a1, b1]))) x8 x9)) (ρ' := (qst T F v n (.tup [.str z_if, .str z_if, .bool false] :: K) (some (.val (.tup [(.tup [.str z_if, c, a, b]), (.tup [.str z_if, c1, a1, b1]), .bool false]))) (some (.val (.tup [.str z_if, c, a, b]))) (some (.val (.tup [.str z_if, c1, a1, b1]))) (some (.val (.int 0))) (some (.val (.bool false))))) (tp := [.b false]) (by kernel_rfl) (by kernel_rfl) (P := ((K : List V).length < room) ∧ false = false ∧ True) (by kernel_rfl) ⟨by (try simp only [List.length_cons]); omega, rfl, trivial⟩ (for_go (i := 8) (v := .int 1) (l := [.int 2, .int 3]) (ρ := (qst T F v n (.tup [.str z_if, .str z_if, .bool false] :: K) (some (.val (.tup [(.tup [.str z_if, c, a, b]), (.tup [.str z_if, c1, a1, b1]), .bool false]))) (some (.val (.tup [.str z_if, c, a, b]))) (some (.val (.tup [.str z_if, c1, a1, b1]))) (some (.val (.int 0))) (some (.val (.bool false))))) (ρ' := (qst T F v n (.tup [c, c1, .bool false] :: (.tup [.str z_if, .str z_if, .bool false] :: K)) (some (.val (.tup [(.tup [.str z_if, c, a, b]), (.tup [.str z_if, c1, a1, b1]), .bool false]))) (some (.val (.tup [.str z_if, c, a, b]))) (some (.val (.tup [.str z_if, c1, a1, b1]))) (some (.val (.int 1))) (some (.val (.bool false))))) (tp := [.b false]) (by kernel_rfl) (by kernel_rfl) (P := (((.tup [.str z_if, .str z_if, .bool false] :: K) : List V).length < room) ∧ false = false ∧ True) (by kernel_rfl) ⟨by (try simp only [List.length_cons]); omega, rfl, trivial⟩ (for_go (i := 8) (v := .int 2) (l := [.int 3]) (ρ := (qst T F v n (.tup [c, c1, .bool false] :: (.tup [.str z_if, .str z_if, .bool false] :: K)) (some (.val (.tup [(.tup [.str z_if, c, a, b]), (.tup [.str z_if, c1, a1, b1]), .bool false]))) (some (.val (.tup [.str z_if, c, a, b]))) (some (.val (.tup [.str z_if, c1, a1, b1]))) (some (.val (.int 1))) (some (.val (.bool false))))) (ρ' := (qst T F v n (.tup [a, a1, .bool false] :: (.tup [c, c1, .bool false] :: (.tup [.str z_if, .str z_if, .bool false] :: K))) (some (.val (.tup [(.tup [.str z_if, c, a, b]), (.tup [.str z_if, c1, a1, b1]), .bool false]))) (some (.val (.tup [.str z_if, c, a, b]))) (some (.val (.tup [.str z_if, c1, a1, b1]))) (some (.val (.int 2))) (some (.val (.bool false))))) (tp := [.b false]) (by kernel_rfl) (by kernel_rfl) (P := (((.tup [c, c1, .bool false] :: (.tup [.str z_if, .str z_if, .bool false] :: K)) : List V).length < room) ∧ false = false ∧ True) (by kernel_rfl) ⟨by (try simp only [List.length_cons]); omega, rfl, trivial⟩ (for_go (i := 8) (v := .int 3) (l := []) (ρ := (qst T F v n (.tup [a, a1, .bool false] :: (.tup [c, c1, .bool false] :: (.tup [.str z_if, .str z_if, .bool false] :: K))) (some (.val (.tup [(.tup [.str z_if, c, a, b]), (.tup [.str z_if, c1, a1, b1]), .bool false]))) (some (.val (.tup [.str z_if, c, a, b]))) (some (.val (.tup [.str z_if, c1, a1, b1]))) (some (.val (.int 2))) (some (.val (.bool false))))) (ρ' := (qst T F v n (.tup [b, b1, .bool false] :: (.tup [a, a1, .bool false] :: (.tup [c, c1, .bool false] :: (.tup [.str z_if, .str z_if, .bool false] :: K)))) (some (.val (.tup [(.tup [.str z_if, c, a, b]), (.tup [.str z_if, c1, a1, b1]), .bool false]))) (some (.val (.tup [.str z_if, c, a, b]))) (some (.val (.tup [.str z_if, c1, a1, b1]))) (some (.val (.int 3))) (some (.val (.bool false))))) (tp := [.b false]) (by kernel_rfl) (by kernel_rfl) (P := (((.tup [a, a1, .bool false] :: (.tup [c, c1, .bool false] :: (.tup [.str z_if, .str z_if, .bool false] :: K))) : List V).length < room) ∧ false = false ∧ True) (by kernel_rfl) ⟨by (try simp only [List.length_cons]); omega, rfl, trivial⟩ for_nil))))
  whp_go false (tp := [.l .next (qst T F v n (.tup [b, b1, .bool false] :: (.tup [a, a1, .bool false] :: (.tup [c, c1, .bool false] :: (.tup [.str z_if, .str z_if, .bool false] :: K)))) (some (.val (.tup [(.tup [.str z_if, c, a, b]), (.tup [.str z_if, c1, a1, b1]), .bool false]))) (some (.val (.tup [.str z_if, c, a, b]))) (some (.val (.tup [.str z_if, c1, a1, b1]))) (some (.val (.int 3))) (some (.val (.bool false))))]) (ρ' := (qst T F v n (.tup [b, b1, .bool false] :: (.tup [a, a1, .bool false] :: (.tup [c, c1, .bool false] :: (.tup [.str z_if, .str z_if, .bool false] :: K)))) (some (.val (.tup [(.tup [.str z_if, c, a, b]), (.tup [.str z_if, c1, a1, b1]), .bool false]))) (some (.val (.tup [.str z_if, c, a, b]))) (some (.val (.tup [.str z_if, c1, a1, b1]))) (some (.val (.int 3))) (some (.val (.bool false))))) (by kernel_rfl) (P := ForOK G (d + 1) fi__law_put_right (.Name "_law_k" ⟨111,16,111,22⟩) (l__law_put_right_111 (d + 1)).xs [.int 0, .int 1, .int 2, .int 3] (qst T F v n K (some (.val (.tup [(.tup [.str z_if, c, a, b]), (.tup [.str z_if, c1, a1, b1]), .bool false]))) (some (.val (.tup [.str z_if, c, a, b]))) (some (.val (.tup [.str z_if, c1, a1, b1]))) x8 x9) .next (qst T F v n (.tup [b, b1, .bool false] :: (.tup [a, a1, .bool false] :: (.tup [c, c1, .bool false] :: (.tup [.str z_if, .str z_if, .bool false] :: K)))) (some (.val (.tup [(.tup [.str z_if, c, a, b]), (.tup [.str z_if, c1, a1, b1]), .bool false]))) (some (.val (.tup [.str z_if, c, a, b]))) (some (.val (.tup [.str z_if, c1, a1, b1]))) (some (.val (.int 3))) (some (.val (.bool false)))) ∧ 4 ≤ 1000000 ∧ True) (by kernel_rfl) ⟨hf, by decide, trivial⟩ (k _ _ _ _ _)
theorem r_lt0 {x : List Nat} {e b e1 b1 : V} {K : List V} (h : (x == n) = false) (hK : K.length + 4 < room) (k : ∀ x5 x6 x7 x8 x9, QW (d + 1) (qst T F v n (.tup [b, b1, .bool false] :: (.tup [e, e1, .bool false] :: (.tup [.str x, .str x, .bool false] :: (.tup [.str z_let, .str z_let, .bool false] :: K)))) x5 x6 x7 x8 x9) Φ) : QW (d + 1) (qst T F v n ((.tup [(.tup [.str z_let, .str x, e, b]), (.tup [.str z_let, .str x, e1, b1]), .bool false]) :: K) x5 x6 x7 x8 x9) Φ :=
  have hf : ForOK G (d + 1) fi__law_put_right (.Name "_law_k" ⟨111,16,111,22⟩) (l__law_put_right_111 (d + 1)).xs [.int 0, .int 1, .int 2, .int 3] (qst T F v n K (some (.val (.tup [(.tup [.str z_let, .str x, e, b]), (.tup [.str z_let, .str x, e1, b1]), .bool false]))) (some (.val (.tup [.str z_let, .str x, e, b]))) (some (.val (.tup [.str z_let, .str x, e1, b1]))) x8 x9) .next (qst T F v n (.tup [b, b1, .bool (x == n)] :: (.tup [e, e1, .bool (x == n)] :: (.tup [.str x, .str x, .bool (x == n)] :: (.tup [.str z_let, .str z_let, .bool (x == n)] :: K)))) (some (.val (.tup [(.tup [.str z_let, .str x, e, b]), (.tup [.str z_let, .str x, e1, b1]), .bool false]))) (some (.val (.tup [.str z_let, .str x, e, b]))) (some (.val (.tup [.str z_let, .str x, e1, b1]))) (some (.val (.int 3))) (some (.val (.bool false)))) :=
    (for_go (i := 8) (v := .int 0) (l := [.int 1, .int 2, .int 3]) (ρ := (qst T F v n K (some (.val (.tup [(.tup [.str z_let, .str x, e, b]), (.tup [.str z_let, .str x, e1, b1]), .bool false]))) (some (.val (.tup [.str z_let, .str x, e, b]))) (some (.val (.tup [.str z_let, .str x, e1, b1]))) x8 x9)) (ρ' := (qst T F v n (.tup [.str z_let, .str z_let, .bool (x == n)] :: K) (some (.val (.tup [(.tup [.str z_let, .str x, e, b]), (.tup [.str z_let, .str x, e1, b1]), .bool false]))) (some (.val (.tup [.str z_let, .str x, e, b]))) (some (.val (.tup [.str z_let, .str x, e1, b1]))) (some (.val (.int 0))) (some (.val (.bool false))))) (tp := [.b false, .b false]) (by kernel_rfl) (by kernel_rfl) (P := ((K : List V).length < room) ∧ (x == n) = false ∧ false = false ∧ True) (by kernel_rfl) ⟨by (try simp only [List.length_cons]); omega, h, rfl, trivial⟩ (for_go (i := 8) (v := .int 1) (l := [.int 2, .int 3]) (ρ := (qst T F v n (.tup [.str z_let, .str z_let, .bool (x == n)] :: K) (some (.val (.tup [(.tup [.str z_let, .str x, e, b]), (.tup [.str z_let, .str x, e1, b1]), .bool false]))) (some (.val (.tup [.str z_let, .str x, e, b]))) (some (.val (.tup [.str z_let, .str x, e1, b1]))) (some (.val (.int 0))) (some (.val (.bool false))))) (ρ' := (qst T F v n (.tup [.str x, .str x, .bool (x == n)] :: (.tup [.str z_let, .str z_let, .bool (x == n)] :: K)) (some (.val (.tup [(.tup [.str z_let, .str x, e, b]), (.tup [.str z_let, .str x, e1, b1]), .bool false]))) (some (.val (.tup [.str z_let, .str x, e, b]))) (some (.val (.tup [.str z_let, .str x, e1, b1]))) (some (.val (.int 1))) (some (.val (.bool false))))) (tp := [.b false, .b false]) (by kernel_rfl) (by kernel_rfl) (P := (((.tup [.str z_let, .str z_let, .bool (x == n)] :: K) : List V).length < room) ∧ (x == n) = false ∧ false = false ∧ True) (by kernel_rfl) ⟨by (try simp only [List.length_cons]); omega, h, rfl, trivial⟩ (for_go (i := 8) (v := .int 2) (l := [.int 3]) (ρ := (qst T F v n (.tup [.str x, .str x, .bool (x == n)] :: (.tup [.str z_let, .str z_let, .bool (x == n)] :: K)) (some (.val (.tup [(.tup [.str z_let, .str x, e, b]), (.tup [.str z_let, .str x, e1, b1]), .bool false]))) (some (.val (.tup [.str z_let, .str x, e, b]))) (some (.val (.tup [.str z_let, .str x, e1, b1]))) (some (.val (.int 1))) (some (.val (.bool false))))) (ρ' := (qst T F v n (.tup [e, e1, .bool (x == n)] :: (.tup [.str x, .str x, .bool (x == n)] :: (.tup [.str z_let, .str z_let, .bool (x == n)] :: K))) (some (.val (.tup [(.tup [.str z_let, .str x, e, b]), (.tup [.str z_let, .str x, e1, b1]), .bool false]))) (some (.val (.tup [.str z_let, .str x, e, b]))) (some (.val (.tup [.str z_let, .str x, e1, b1]))) (some (.val (.int 2))) (some (.val (.bool false))))) (tp := [.b false, .b false]) (by kernel_rfl) (by kernel_rfl) (P := (((.tup [.str x, .str x, .bool (x == n)] :: (.tup [.str z_let, .str z_let, .bool (x == n)] :: K)) : List V).length < room) ∧ (x == n) = false ∧ false = false ∧ True) (by kernel_rfl) ⟨by (try simp only [List.length_cons]); omega, h, rfl, trivial⟩ (for_go (i := 8) (v := .int 3) (l := []) (ρ := (qst T F v n (.tup [e, e1, .bool (x == n)] :: (.tup [.str x, .str x, .bool (x == n)] :: (.tup [.str z_let, .str z_let, .bool (x == n)] :: K))) (some (.val (.tup [(.tup [.str z_let, .str x, e, b]), (.tup [.str z_let, .str x, e1, b1]), .bool false]))) (some (.val (.tup [.str z_let, .str x, e, b]))) (some (.val (.tup [.str z_let, .str x, e1, b1]))) (some (.val (.int 2))) (some (.val (.bool false))))) (ρ' := (qst T F v n (.tup [b, b1, .bool (x == n)] :: (.tup [e, e1, .bool (x == n)] :: (.tup [.str x, .str x, .bool (x == n)] :: (.tup [.str z_let, .str z_let, .bool (x == n)] :: K)))) (some (.val (.tup [(.tup [.str z_let, .str x, e, b]), (.tup [.str z_let, .str x, e1, b1]), .bool false]))) (some (.val (.tup [.str z_let, .str x, e, b]))) (some (.val (.tup [.str z_let, .str x, e1, b1]))) (some (.val (.int 3))) (some (.val (.bool false))))) (tp := [.b false, .b false]) (by kernel_rfl) (by kernel_rfl) (P := (((.tup [e, e1, .bool (x == n)] :: (.tup [.str x, .str x, .bool (x == n)] :: (.tup [.str z_let, .str z_let, .bool (x == n)] :: K))) : List V).length < room) ∧ (x == n) = false ∧ false = false ∧ True) (by kernel_rfl) ⟨by (try simp only [List.length_cons]); omega, h, rfl, trivial⟩ for_nil))))
  whp_go false (tp := [.l .next (qst T F v n (.tup [b, b1, .bool (x == n)] :: (.tup [e, e1, .bool (x == n)] :: (.tup [.str x, .str x, .bool (x == n)] :: (.tup [.str z_let, .str z_let, .bool (x == n)] :: K)))) (some (.val (.tup [(.tup [.str z_let, .str x, e, b]), (.tup [.str z_let, .str x, e1, b1]), .bool false]))) (some (.val (.tup [.str z_let, .str x, e, b]))) (some (.val (.tup [.str z_let, .str x, e1, b1]))) (some (.val (.int 3))) (some (.val (.bool false))))]) (ρ' := (qst T F v n (.tup [b, b1, .bool (x == n)] :: (.tup [e, e1, .bool (x == n)] :: (.tup [.str x, .str x, .bool (x == n)] :: (.tup [.str z_let, .str z_let, .bool (x == n)] :: K)))) (some (.val (.tup [(.tup [.str z_let, .str x, e, b]), (.tup [.str z_let, .str x, e1, b1]), .bool false]))) (some (.val (.tup [.str z_let, .str x, e, b]))) (some (.val (.tup [.str z_let, .str x, e1, b1]))) (some (.val (.int 3))) (some (.val (.bool false))))) (by kernel_rfl) (P := ForOK G (d + 1) fi__law_put_right (.Name "_law_k" ⟨111,16,111,22⟩) (l__law_put_right_111 (d + 1)).xs [.int 0, .int 1, .int 2, .int 3] (qst T F v n K (some (.val (.tup [(.tup [.str z_let, .str x, e, b]), (.tup [.str z_let, .str x, e1, b1]), .bool false]))) (some (.val (.tup [.str z_let, .str x, e, b]))) (some (.val (.tup [.str z_let, .str x, e1, b1]))) x8 x9) .next (qst T F v n (.tup [b, b1, .bool (x == n)] :: (.tup [e, e1, .bool (x == n)] :: (.tup [.str x, .str x, .bool (x == n)] :: (.tup [.str z_let, .str z_let, .bool (x == n)] :: K)))) (some (.val (.tup [(.tup [.str z_let, .str x, e, b]), (.tup [.str z_let, .str x, e1, b1]), .bool false]))) (some (.val (.tup [.str z_let, .str x, e, b]))) (some (.val (.tup [.str z_let, .str x, e1, b1]))) (some (.val (.int 3))) (some (.val (.bool false)))) ∧ 4 ≤ 1000000 ∧ True) (by kernel_rfl) ⟨hf, by decide, trivial⟩ (by rw [h]; exact k _ _ _ _ _)
theorem r_lt1 {x : List Nat} {e b e1 b1 : V} {K : List V} (h : (x == n) = true) (hK : K.length + 4 < room) (k : ∀ x5 x6 x7 x8 x9, QW (d + 1) (qst T F v n (.tup [b, b1, .bool true] :: (.tup [e, e1, .bool false] :: (.tup [.str x, .str x, .bool false] :: (.tup [.str z_let, .str z_let, .bool false] :: K)))) x5 x6 x7 x8 x9) Φ) : QW (d + 1) (qst T F v n ((.tup [(.tup [.str z_let, .str x, e, b]), (.tup [.str z_let, .str x, e1, b1]), .bool false]) :: K) x5 x6 x7 x8 x9) Φ :=
  have hf : ForOK G (d + 1) fi__law_put_right (.Name "_law_k" ⟨111,16,111,22⟩) (l__law_put_right_111 (d + 1)).xs [.int 0, .int 1, .int 2, .int 3] (qst T F v n K (some (.val (.tup [(.tup [.str z_let, .str x, e, b]), (.tup [.str z_let, .str x, e1, b1]), .bool false]))) (some (.val (.tup [.str z_let, .str x, e, b]))) (some (.val (.tup [.str z_let, .str x, e1, b1]))) x8 x9) .next (qst T F v n (.tup [b, b1, .bool true] :: (.tup [e, e1, .bool false] :: (.tup [.str x, .str x, .bool false] :: (.tup [.str z_let, .str z_let, .bool false] :: K)))) (some (.val (.tup [(.tup [.str z_let, .str x, e, b]), (.tup [.str z_let, .str x, e1, b1]), .bool false]))) (some (.val (.tup [.str z_let, .str x, e, b]))) (some (.val (.tup [.str z_let, .str x, e1, b1]))) (some (.val (.int 3))) (some (.val (.bool false)))) :=
    (for_go (i := 8) (v := .int 0) (l := [.int 1, .int 2, .int 3]) (ρ := (qst T F v n K (some (.val (.tup [(.tup [.str z_let, .str x, e, b]), (.tup [.str z_let, .str x, e1, b1]), .bool false]))) (some (.val (.tup [.str z_let, .str x, e, b]))) (some (.val (.tup [.str z_let, .str x, e1, b1]))) x8 x9)) (ρ' := (qst T F v n (.tup [.str z_let, .str z_let, .bool false] :: K) (some (.val (.tup [(.tup [.str z_let, .str x, e, b]), (.tup [.str z_let, .str x, e1, b1]), .bool false]))) (some (.val (.tup [.str z_let, .str x, e, b]))) (some (.val (.tup [.str z_let, .str x, e1, b1]))) (some (.val (.int 0))) (some (.val (.bool false))))) (tp := [.b false, .b true]) (by kernel_rfl) (by kernel_rfl) (P := ((K : List V).length < room) ∧ (x == n) = true ∧ false = false ∧ True) (by kernel_rfl) ⟨by (try simp only [List.length_cons]); omega, h, rfl, trivial⟩ (for_go (i := 8) (v := .int 1) (l := [.int 2, .int 3]) (ρ := (qst T F v n (.tup [.str z_let, .str z_let, .bool false] :: K) (some (.val (.tup [(.tup [.str z_let, .str x, e, b]), (.tup [.str z_let, .str x, e1, b1]), .bool false]))) (some (.val (.tup [.str z_let, .str x, e, b]))) (some (.val (.tup [.str z_let, .str x, e1, b1]))) (some (.val (.int 0))) (some (.val (.bool false))))) (ρ' := (qst T F v n (.tup [.str x, .str x, .bool false] :: (.tup [.str z_let, .str z_let, .bool false] :: K)) (some (.val (.tup [(.tup [.str z_let, .str x, e, b]), (.tup [.str z_let, .str x, e1, b1]), .bool false]))) (some (.val (.tup [.str z_let, .str x, e, b]))) (some (.val (.tup [.str z_let, .str x, e1, b1]))) (some (.val (.int 1))) (some (.val (.bool false))))) (tp := [.b false, .b true]) (by kernel_rfl) (by kernel_rfl) (P := (((.tup [.str z_let, .str z_let, .bool false] :: K) : List V).length < room) ∧ (x == n) = true ∧ false = false ∧ True) (by kernel_rfl) ⟨by (try simp only [List.length_cons]); omega, h, rfl, trivial⟩ (for_go (i := 8) (v := .int 2) (l := [.int 3]) (ρ := (qst T F v n (.tup [.str x, .str x, .bool false] :: (.tup [.str z_let, .str z_let, .bool false] :: K)) (some (.val (.tup [(.tup [.str z_let, .str x, e, b]), (.tup [.str z_let, .str x, e1, b1]), .bool false]))) (some (.val (.tup [.str z_let, .str x, e, b]))) (some (.val (.tup [.str z_let, .str x, e1, b1]))) (some (.val (.int 1))) (some (.val (.bool false))))) (ρ' := (qst T F v n (.tup [e, e1, .bool false] :: (.tup [.str x, .str x, .bool false] :: (.tup [.str z_let, .str z_let, .bool false] :: K))) (some (.val (.tup [(.tup [.str z_let, .str x, e, b]), (.tup [.str z_let, .str x, e1, b1]), .bool false]))) (some (.val (.tup [.str z_let, .str x, e, b]))) (some (.val (.tup [.str z_let, .str x, e1, b1]))) (some (.val (.int 2))) (some (.val (.bool false))))) (tp := [.b false, .b true]) (by kernel_rfl) (by kernel_rfl) (P := (((.tup [.str x, .str x, .bool false] :: (.tup [.str z_let, .str z_let, .bool false] :: K)) : List V).length < room) ∧ (x == n) = true ∧ false = false ∧ True) (by kernel_rfl) ⟨by (try simp only [List.length_cons]); omega, h, rfl, trivial⟩ (for_go (i := 8) (v := .int 3) (l := []) (ρ := (qst T F v n (.tup [e, e1, .bool false] :: (.tup [.str x, .str x, .bool false] :: (.tup [.str z_let, .str z_let, .bool false] :: K))) (some (.val (.tup [(.tup [.str z_let, .str x, e, b]), (.tup [.str z_let, .str x, e1, b1]), .bool false]))) (some (.val (.tup [.str z_let, .str x, e, b]))) (some (.val (.tup [.str z_let, .str x, e1, b1]))) (some (.val (.int 2))) (some (.val (.bool false))))) (ρ' := (qst T F v n (.tup [b, b1, .bool true] :: (.tup [e, e1, .bool false] :: (.tup [.str x, .str x, .bool false] :: (.tup [.str z_let, .str z_let, .bool false] :: K)))) (some (.val (.tup [(.tup [.str z_let, .str x, e, b]), (.tup [.str z_let, .str x, e1, b1]), .bool false]))) (some (.val (.tup [.str z_let, .str x, e, b]))) (some (.val (.tup [.str z_let, .str x, e1, b1]))) (some (.val (.int 3))) (some (.val (.bool false))))) (tp := [.b false, .b true]) (by kernel_rfl) (by kernel_rfl) (P := (((.tup [e, e1, .bool false] :: (.tup [.str x, .str x, .bool false] :: (.tup [.str z_let, .str z_let, .bool false] :: K))) : List V).length < room) ∧ (x == n) = true ∧ false = false ∧ True) (by kernel_rfl) ⟨by (try simp only [List.length_cons]); omega, h, rfl, trivial⟩ for_nil))))
  whp_go false (tp := [.l .next (qst T F v n (.tup [b, b1, .bool true] :: (.tup [e, e1, .bool false] :: (.tup [.str x, .str x, .bool false] :: (.tup [.str z_let, .str z_let, .bool false] :: K)))) (some (.val (.tup [(.tup [.str z_let, .str x, e, b]), (.tup [.str z_let, .str x, e1, b1]), .bool false]))) (some (.val (.tup [.str z_let, .str x, e, b]))) (some (.val (.tup [.str z_let, .str x, e1, b1]))) (some (.val (.int 3))) (some (.val (.bool false))))]) (ρ' := (qst T F v n (.tup [b, b1, .bool true] :: (.tup [e, e1, .bool false] :: (.tup [.str x, .str x, .bool false] :: (.tup [.str z_let, .str z_let, .bool false] :: K)))) (some (.val (.tup [(.tup [.str z_let, .str x, e, b]), (.tup [.str z_let, .str x, e1, b1]), .bool false]))) (some (.val (.tup [.str z_let, .str x, e, b]))) (some (.val (.tup [.str z_let, .str x, e1, b1]))) (some (.val (.int 3))) (some (.val (.bool false))))) (by kernel_rfl) (P := ForOK G (d + 1) fi__law_put_right (.Name "_law_k" ⟨111,16,111,22⟩) (l__law_put_right_111 (d + 1)).xs [.int 0, .int 1, .int 2, .int 3] (qst T F v n K (some (.val (.tup [(.tup [.str z_let, .str x, e, b]), (.tup [.str z_let, .str x, e1, b1]), .bool false]))) (some (.val (.tup [.str z_let, .str x, e, b]))) (some (.val (.tup [.str z_let, .str x, e1, b1]))) x8 x9) .next (qst T F v n (.tup [b, b1, .bool true] :: (.tup [e, e1, .bool false] :: (.tup [.str x, .str x, .bool false] :: (.tup [.str z_let, .str z_let, .bool false] :: K)))) (some (.val (.tup [(.tup [.str z_let, .str x, e, b]), (.tup [.str z_let, .str x, e1, b1]), .bool false]))) (some (.val (.tup [.str z_let, .str x, e, b]))) (some (.val (.tup [.str z_let, .str x, e1, b1]))) (some (.val (.int 3))) (some (.val (.bool false)))) ∧ 4 ≤ 1000000 ∧ True) (by kernel_rfl) ⟨hf, by decide, trivial⟩ (k _ _ _ _ _)
theorem r_same (t : Mine.Tree) : ∀ {K : List V} {x5 x6 x7 x8 x9 : Option O}, K.length + 4 * sz t < room → (∀ x5 x6 x7 x8 x9, QW (d + 1) (qst T F v n K x5 x6 x7 x8 x9) Φ) → QW (d + 1) (qst T F v n (.tup [tv t, tv t, .bool true] :: K) x5 x6 x7 x8 x9) Φ := by
  induction t with
  | num i =>
    intro K x5 x6 x7 x8 x9 hK k
    have hs : 4 * sz (.num i) = 4 := rfl
    rw [hs] at hK
    exact r_t_num hK fun _ _ _ _ _ => r_int fun _ _ _ _ _ => r_str k
  | name x =>
    intro K x5 x6 x7 x8 x9 hK k
    have hs : 4 * sz (.name x) = 4 := rfl
    rw [hs] at hK
    cases h : x == n with
    | true => exact r_t_name_true h hK fun _ _ _ _ _ => r_str fun _ _ _ _ _ => r_str k
    | false => exact r_t_name_false h hK fun _ _ _ _ _ => r_str fun _ _ _ _ _ => r_str k
  | fn x b ib =>
    intro K x5 x6 x7 x8 x9 hK k
    have hs : sz (.fn x b) = sz b + 1 := rfl
    rw [hs] at hK
    have hb := sz_pos b
    exact r_t_3 (by omega) fun _ _ _ _ _ => ib (by (try simp only [List.length_cons]); omega) fun _ _ _ _ _ => r_str fun _ _ _ _ _ => r_str k
  | call a b ia ib =>
    intro K x5 x6 x7 x8 x9 hK k
    have hs : sz (.call a b) = sz a + sz b + 1 := rfl
    rw [hs] at hK
    have ha := sz_pos a
    have hb := sz_pos b
    exact r_t_3 (by omega) fun _ _ _ _ _ => ib (by (try simp only [List.length_cons]); omega) fun _ _ _ _ _ => ia (by (try simp only [List.length_cons]); omega) fun _ _ _ _ _ => r_str k
  | plus a b ia ib =>
    intro K x5 x6 x7 x8 x9 hK k
    have hs : sz (.plus a b) = sz a + sz b + 1 := rfl
    rw [hs] at hK
    have ha := sz_pos a
    have hb := sz_pos b
    exact r_t_3 (by omega) fun _ _ _ _ _ => ib (by (try simp only [List.length_cons]); omega) fun _ _ _ _ _ => ia (by (try simp only [List.length_cons]); omega) fun _ _ _ _ _ => r_str k
  | less a b ia ib =>
    intro K x5 x6 x7 x8 x9 hK k
    have hs : sz (.less a b) = sz a + sz b + 1 := rfl
    rw [hs] at hK
    have ha := sz_pos a
    have hb := sz_pos b
    exact r_t_3 (by omega) fun _ _ _ _ _ => ib (by (try simp only [List.length_cons]); omega) fun _ _ _ _ _ => ia (by (try simp only [List.length_cons]); omega) fun _ _ _ _ _ => r_str k
  | ite c a b ic ia ib =>
    intro K x5 x6 x7 x8 x9 hK k
    have hs : sz (.ite c a b) = sz c + sz a + sz b + 1 := rfl
    rw [hs] at hK
    have hc := sz_pos c
    have ha := sz_pos a
    have hb := sz_pos b
    exact r_t_4 (by omega) fun _ _ _ _ _ => ib (by (try simp only [List.length_cons]); omega) fun _ _ _ _ _ => ia (by (try simp only [List.length_cons]); omega) fun _ _ _ _ _ => ic (by (try simp only [List.length_cons]); omega) fun _ _ _ _ _ => r_str k
  | lt x e b ie ib =>
    intro K x5 x6 x7 x8 x9 hK k
    have hs : sz (.lt x e b) = sz e + sz b + 1 := rfl
    rw [hs] at hK
    have he := sz_pos e
    have hb := sz_pos b
    exact r_t_4 (by omega) fun _ _ _ _ _ => ib (by (try simp only [List.length_cons]); omega) fun _ _ _ _ _ => ie (by (try simp only [List.length_cons]); omega) fun _ _ _ _ _ => r_str fun _ _ _ _ _ => r_str k
theorem r_all {u : Mine.Tree} (t : Mine.Tree) : ∀ {K : List V} {x5 x6 x7 x8 x9 : Option O}, K.length + 4 * (sz t + sz u) < room → (∀ x5 x6 x7 x8 x9, QW (d + 1) (qst T F (tv u) n K x5 x6 x7 x8 x9) Φ) → QW (d + 1) (qst T F (tv u) n (.tup [tv t, sub n (tv u) t, .bool false] :: K) x5 x6 x7 x8 x9) Φ := by
  have hu := sz_pos u
  induction t with
  | num i =>
    intro K x5 x6 x7 x8 x9 hK k
    have hs : 4 * (sz (.num i) + sz u) = 4 * (1 + sz u) := rfl
    rw [hs] at hK
    exact r_num (by omega) fun _ _ _ _ _ => r_int fun _ _ _ _ _ => r_str k
  | name x =>
    intro K x5 x6 x7 x8 x9 hK k
    have hs : 4 * (sz (.name x) + sz u) = 4 * (1 + sz u) := rfl
    rw [hs] at hK
    have e : sub n (tv u) (.name x) = Bool.casesOn (x == n) (tv (.name x)) (tv u) := rfl
    rw [e]
    cases h : x == n with
    | true => exact r_put h (by omega) fun _ _ _ _ _ => r_same u (by omega) k
    | false => exact r_name h (by omega) fun _ _ _ _ _ => r_str fun _ _ _ _ _ => r_str k
  | fn x b ib =>
    intro K x5 x6 x7 x8 x9 hK k
    have hs : sz (.fn x b) = sz b + 1 := rfl
    rw [hs] at hK
    have hb := sz_pos b
    have e : sub n (tv u) (.fn x b) = .tup [.str z_fun, .str x, Bool.casesOn (x == n) (sub n (tv u) b) (tv b)] := rfl
    rw [e]
    cases h : x == n with
    | true => exact r_fn1 h (by omega) fun _ _ _ _ _ => r_same b (by (try simp only [List.length_cons]); omega) fun _ _ _ _ _ => r_str fun _ _ _ _ _ => r_str k
    | false => exact r_fn0 h (by omega) fun _ _ _ _ _ => ib (by (try simp only [List.length_cons]); omega) fun _ _ _ _ _ => r_str fun _ _ _ _ _ => r_str k
  | call a b ia ib =>
    intro K x5 x6 x7 x8 x9 hK k
    have hs : sz (.call a b) = sz a + sz b + 1 := rfl
    rw [hs] at hK
    have ha := sz_pos a
    have hb := sz_pos b
    exact r_call (by omega) fun _ _ _ _ _ => ib (by (try simp only [List.length_cons]); omega) fun _ _ _ _ _ => ia (by (try simp only [List.length_cons]); omega) fun _ _ _ _ _ => r_str k
  | plus a b ia ib =>
    intro K x5 x6 x7 x8 x9 hK k
    have hs : sz (.plus a b) = sz a + sz b + 1 := rfl
    rw [hs] at hK
    have ha := sz_pos a
    have hb := sz_pos b
    exact r_plus (by omega) fun _ _ _ _ _ => ib (by (try simp only [List.length_cons]); omega) fun _ _ _ _ _ => ia (by (try simp only [List.length_cons]); omega) fun _ _ _ _ _ => r_str k
  | less a b ia ib =>
    intro K x5 x6 x7 x8 x9 hK k
    have hs : sz (.less a b) = sz a + sz b + 1 := rfl
    rw [hs] at hK
    have ha := sz_pos a
    have hb := sz_pos b
    exact r_less (by omega) fun _ _ _ _ _ => ib (by (try simp only [List.length_cons]); omega) fun _ _ _ _ _ => ia (by (try simp only [List.length_cons]); omega) fun _ _ _ _ _ => r_str k
  | ite c a b ic ia ib =>
    intro K x5 x6 x7 x8 x9 hK k
    have hs : sz (.ite c a b) = sz c + sz a + sz b + 1 := rfl
    rw [hs] at hK
    have hc := sz_pos c
    have ha := sz_pos a
    have hb := sz_pos b
    exact r_ite (by omega) fun _ _ _ _ _ => ib (by (try simp only [List.length_cons]); omega) fun _ _ _ _ _ => ia (by (try simp only [List.length_cons]); omega) fun _ _ _ _ _ => ic (by (try simp only [List.length_cons]); omega) fun _ _ _ _ _ => r_str k
  | lt x e b ie ib =>
    intro K x5 x6 x7 x8 x9 hK k
    have hs : sz (.lt x e b) = sz e + sz b + 1 := rfl
    rw [hs] at hK
    have he := sz_pos e
    have hb := sz_pos b
    have e' : sub n (tv u) (.lt x e b) = .tup [.str z_let, .str x, sub n (tv u) e, Bool.casesOn (x == n) (sub n (tv u) b) (tv b)] := rfl
    rw [e']
    cases h : x == n with
    | true => exact r_lt1 h (by omega) fun _ _ _ _ _ => r_same b (by (try simp only [List.length_cons]); omega) fun _ _ _ _ _ => ie (by (try simp only [List.length_cons]); omega) fun _ _ _ _ _ => r_str fun _ _ _ _ _ => r_str k
    | false => exact r_lt0 h (by omega) fun _ _ _ _ _ => ib (by (try simp only [List.length_cons]); omega) fun _ _ _ _ _ => ie (by (try simp only [List.length_cons]); omega) fun _ _ _ _ _ => r_str fun _ _ _ _ _ => r_str k
theorem ok_right (t u : Mine.Tree) (hz : 4 * (sz t + sz u) < room) : CallOK G (d + 2) 75 [tv t, sub n (tv u) t, .str n, tv u] (.val (.bool true)) := by
  have hw : QW (d + 1) (qst (tv t) (sub n (tv u) t) (tv u) n [.tup [tv t, sub n (tv u) t, .bool false]] none none none none none) fun fl ρ => fl = .next ∧ ∃ x5 x6 x7 x8 x9, ρ = qst (tv t) (sub n (tv u) t) (tv u) n [] x5 x6 x7 x8 x9 :=
    r_all t (by simpa using hz) fun x5 x6 x7 x8 x9 => whp_end false (tp := []) (ρ' := qst (tv t) (sub n (tv u) t) (tv u) n [] x5 x6 x7 x8 x9) (by kernel_rfl) (P := True) (by kernel_rfl) trivial ⟨rfl, _, _, _, _, _, rfl⟩
  obtain ⟨fl, ρ, hw, rfl, x5, x6, x7, x8, x9, rfl⟩ := hw
  exact call_go (n := 6) (tp := [.l .next (qst (tv t) (sub n (tv u) t) (tv u) n [] x5 x6 x7 x8 x9)]) (b__law_put_right (d + 1)) rfl (b__law_put_right_x (d + 1)) rfl (by kernel_rfl) (P := WhilOK G (d + 1) fi__law_put_right (c__law_put_right_99 (d + 1)).x (l__law_put_right_99 (d + 1)).xs (qst (tv t) (sub n (tv u) t) (tv u) n [.tup [tv t, sub n (tv u) t, .bool false]] none none none none none) .next (qst (tv t) (sub n (tv u) t) (tv u) n [] x5 x6 x7 x8 x9) ∧ True) (by kernel_rfl) ⟨hw, trivial⟩

end
end Mine
end

section
open PySem
set_option autoImplicit false
set_option maxRecDepth 100000
namespace Mine
open Mine.L03
noncomputable abbrev gst (C N : V) (S : List V) (x3 x4 x5 x6 x7 : Option O) : Loc := [some (.val C), some (.val N), some (.own S), x3, x4, x5, x6, x7]
noncomputable def szs (ts : List Mine.Tree) : Nat := (ts.map sz).sum
theorem szs_len : ∀ ts : List Mine.Tree, ts.length ≤ szs ts
  | [] => Nat.le_refl _
  | t :: ts => by
    have := szs_len ts
    have := sz_pos t
    show ts.length + 1 ≤ sz t + szs ts
    omega
def Pick (o : O) (i : Int) (v : O) : Prop := (subO o i).bind (fun v => some (O.val v)) = some v
theorem mod_cases (c : Int) (n : Nat) (hn : 0 < n) : ∃ k : Nat, k < n ∧ c % (n : Int) = (k : Int) :=
  ⟨(c % (n : Int)).toNat, by have := Int.emod_lt_of_pos c (b := (n : Int)) (by omega); have := Int.emod_nonneg c (b := (n : Int)) (by omega); omega, by have := Int.emod_nonneg c (b := (n : Int)) (by omega); omega⟩
theorem pick4 (a b c e : List Nat) (i : Int) : ∃ x, Pick (.val (.lst [.str a, .str b, .str c, .str e])) (i % 4) (.val (.str x)) := by
  obtain ⟨k, hk, e1⟩ := mod_cases i 4 (by decide)
  have e1 : i % 4 = Int.ofNat k := e1
  unfold Pick; rw [e1]
  match k, hk with
  | 0, _ => exact ⟨a, rfl⟩
  | 1, _ => exact ⟨b, rfl⟩
  | 2, _ => exact ⟨c, rfl⟩
  | 3, _ => exact ⟨e, rfl⟩
section
variable {d : Nat} {C : V} {N : List V} {x : List Nat} {x3 x4 x5 x6 x7 : Option O}
theorem ok_join6 (a b : V) : CallOK G (d + 1) 54 [.int 6, .str x, a, b] (.val (.tup [.str z_call, .tup [.str z_fun, .str x, a], b])) := call_go (n := 0) (tp := []) (b__law_joined d) rfl (b__law_joined_x d) rfl (by kernel_rfl) (P := True) (by kernel_rfl) trivial
theorem ok_join7 (a b : V) : CallOK G (d + 1) 54 [.int 7, .str x, a, b] (.val (.tup [.str z_plus, a, b])) := call_go (n := 0) (tp := []) (b__law_joined d) rfl (b__law_joined_x d) rfl (by kernel_rfl) (P := True) (by kernel_rfl) trivial
theorem ok_join8 (a b : V) : CallOK G (d + 1) 54 [.int 8, .str x, a, b] (.val (.tup [.str z_less, a, b])) := call_go (n := 0) (tp := []) (b__law_joined d) rfl (b__law_joined_x d) rfl (by kernel_rfl) (P := True) (by kernel_rfl) trivial
theorem ok_join9 (a b : V) : CallOK G (d + 1) 54 [.int 9, .str x, a, b] (.val (.tup [.str z_if, a, b, .tup [.str z_name, .str x]])) := call_go (n := 0) (tp := []) (b__law_joined d) rfl (b__law_joined_x d) rfl (by kernel_rfl) (P := True) (by kernel_rfl) trivial
theorem ok_join10 (a b : V) : CallOK G (d + 1) 54 [.int 10, .str x, a, b] (.val (.tup [.str z_let, .str x, a, b])) := call_go (n := 0) (tp := []) (b__law_joined d) rfl (b__law_joined_x d) rfl (by kernel_rfl) (P := True) (by kernel_rfl) trivial
abbrev TF (d : Nat) (l : List V) (ρ : Loc) (fl : Fl) (ρ' : Loc) : Prop := ForOK G (d + 1) fi__law_tree_by (.Name "_law_cell" ⟨68,8,68,17⟩) (l__law_tree_by_68 (d + 1)).xs l ρ fl ρ'
def TT (d : Nat) (C : V) (N : List V) (c : Int) (S S' : List V) (x3 x4 x5 x6 x7 : Option O) : Prop := ∃ y3 y4 y5 y6 y7, ∀ l fl ρ', TF d l (gst C (.lst N) S' y3 y4 y5 y6 y7) fl ρ' → TF d (.int c :: l) (gst C (.lst N) S x3 x4 x5 x6 x7) fl ρ'
theorem tb_name0 {c : Int} {S : List V} (hx : Pick (.val (.lst N)) (c / 11 % 4) (.val (.str x))) (hk : c % 11 = 0) (hS : S.length < room) : TT d C N c S (.tup [.str z_name, .str x] :: S) x3 x4 x5 x6 x7 :=
  ⟨some (.val (.int c)), some (.val (.int 0)), some (.val (.int (c / 11))), some (.val (.str x)), x7, fun l fl ρ' h => for_go (i := 3) (tp := [.r (.val (.int 0)), .r (.val (.str x))]) (by kernel_rfl) (by kernel_rfl) (P := (S.length < room) ∧ (subO (.val (.lst N)) (c / 11 % 4)).bind (fun v => some (O.val v)) = some (.val (.str x)) ∧ ((0 : Int) < 4) ∧ ((0 : Int) < 11 ∧ (11 : Int) < 2 ^ 29) ∧ (O.val (.int (c % 11)) = .val (.int 0)) ∧ ((0 : Int) < 11) ∧ True) (by kernel_rfl) ⟨hS, hx, by decide, by decide, by rw [hk], by decide, trivial⟩ h⟩
theorem tb_name1 {c : Int} {S : List V} (hx : Pick (.val (.lst N)) (c / 11 % 4) (.val (.str x))) (hk : c % 11 = 1) (hS : S.length < room) : TT d C N c S (.tup [.str z_name, .str x] :: S) x3 x4 x5 x6 x7 :=
  ⟨some (.val (.int c)), some (.val (.int 1)), some (.val (.int (c / 11))), some (.val (.str x)), x7, fun l fl ρ' h => for_go (i := 3) (tp := [.r (.val (.int 1)), .r (.val (.str x))]) (by kernel_rfl) (by kernel_rfl) (P := (S.length < room) ∧ (subO (.val (.lst N)) (c / 11 % 4)).bind (fun v => some (O.val v)) = some (.val (.str x)) ∧ ((0 : Int) < 4) ∧ ((0 : Int) < 11 ∧ (11 : Int) < 2 ^ 29) ∧ (O.val (.int (c % 11)) = .val (.int 1)) ∧ ((0 : Int) < 11) ∧ True) (by kernel_rfl) ⟨hS, hx, by decide, by decide, by rw [hk], by decide, trivial⟩ h⟩
theorem tb_num2 {c : Int} {S : List V} {a : V} (hx : Pick (.val (.lst N)) (c / 11 % 4) (.val (.str x))) (hk : c % 11 = 2) (hS : (a :: S).length < room) : TT d C N c (a :: S) (.tup [.str z_num, .int (c / 11 % (10 : Int) ^ (60 : Int).toNat)] :: a :: S) x3 x4 x5 x6 x7 :=
  ⟨some (.val (.int c)), some (.val (.int 2)), some (.val (.int (c / 11))), some (.val (.str x)), x7, fun l fl ρ' h => for_go (i := 3) (tp := [.r (.val (.int 2)), .r (.val (.str x))]) (by kernel_rfl) (by kernel_rfl) (P := ((a :: S).length < room) ∧ ((0 : Int) < (10 : Int) ^ (60 : Int).toNat) ∧ ((10 : Int) = 10 ∧ (0 : Int) < 60 ∧ (60 : Int) ≤ 100) ∧ (subO (.val (.lst N)) (c / 11 % 4)).bind (fun v => some (O.val v)) = some (.val (.str x)) ∧ ((0 : Int) < 4) ∧ ((0 : Int) < 11 ∧ (11 : Int) < 2 ^ 29) ∧ (O.val (.int (c % 11)) = .val (.int 2)) ∧ ((0 : Int) < 11) ∧ True) (by kernel_rfl) ⟨hS, by decide, by decide, hx, by decide, by decide, by rw [hk], by decide, trivial⟩ h⟩
theorem tb_name3 {c : Int}  (hx : Pick (.val (.lst N)) (c / 11 % 4) (.val (.str x))) (hk : c % 11 = 3) : TT d C N c [] [.tup [.str z_name, .str x]] x3 x4 x5 x6 x7 :=
  ⟨some (.val (.int c)), some (.val (.int 3)), some (.val (.int (c / 11))), some (.val (.str x)), x7, fun l fl ρ' h => for_go (i := 3) (tp := [.r (.val (.int 3)), .r (.val (.str x))]) (by kernel_rfl) (by kernel_rfl) (P := (([] : List V).length < room) ∧ ((0 : Int) < 2) ∧ (subO (.val (.lst N)) (c / 11 % 4)).bind (fun v => some (O.val v)) = some (.val (.str x)) ∧ ((0 : Int) < 4) ∧ ((0 : Int) < 11 ∧ (11 : Int) < 2 ^ 29) ∧ (O.val (.int (c % 11)) = .val (.int 3)) ∧ ((0 : Int) < 11) ∧ True) (by kernel_rfl) ⟨by decide, by decide, hx, by decide, by decide, by rw [hk], by decide, trivial⟩ h⟩
theorem tb_name5 {c : Int}  (hx : Pick (.val (.lst N)) (c / 11 % 4) (.val (.str x))) (hk : c % 11 = 5) : TT d C N c [] [.tup [.str z_name, .str x]] x3 x4 x5 x6 x7 :=
  ⟨some (.val (.int c)), some (.val (.int 5)), some (.val (.int (c / 11))), some (.val (.str x)), x7, fun l fl ρ' h => for_go (i := 3) (tp := [.r (.val (.int 5)), .r (.val (.str x))]) (by kernel_rfl) (by kernel_rfl) (P := (([] : List V).length < room) ∧ ((0 : Int) < 2) ∧ (subO (.val (.lst N)) (c / 11 % 4)).bind (fun v => some (O.val v)) = some (.val (.str x)) ∧ ((0 : Int) < 4) ∧ ((0 : Int) < 11 ∧ (11 : Int) < 2 ^ 29) ∧ (O.val (.int (c % 11)) = .val (.int 5)) ∧ ((0 : Int) < 11) ∧ True) (by kernel_rfl) ⟨by decide, by decide, hx, by decide, by decide, by rw [hk], by decide, trivial⟩ h⟩
theorem tb_name7 {c : Int}  (hx : Pick (.val (.lst N)) (c / 11 % 4) (.val (.str x))) (hk : c % 11 = 7) : TT d C N c [] [.tup [.str z_name, .str x]] x3 x4 x5 x6 x7 :=
  ⟨some (.val (.int c)), some (.val (.int 7)), some (.val (.int (c / 11))), some (.val (.str x)), x7, fun l fl ρ' h => for_go (i := 3) (tp := [.r (.val (.int 7)), .r (.val (.str x))]) (by kernel_rfl) (by kernel_rfl) (P := (([] : List V).length < room) ∧ ((0 : Int) < 2) ∧ (subO (.val (.lst N)) (c / 11 % 4)).bind (fun v => some (O.val v)) = some (.val (.str x)) ∧ ((0 : Int) < 4) ∧ ((0 : Int) < 11 ∧ (11 : Int) < 2 ^ 29) ∧ (O.val (.int (c % 11)) = .val (.int 7)) ∧ ((0 : Int) < 11) ∧ True) (by kernel_rfl) ⟨by decide, by decide, hx, by decide, by decide, by rw [hk], by decide, trivial⟩ h⟩
theorem tb_name9 {c : Int}  (hx : Pick (.val (.lst N)) (c / 11 % 4) (.val (.str x))) (hk : c % 11 = 9) : TT d C N c [] [.tup [.str z_name, .str x]] x3 x4 x5 x6 x7 :=
  ⟨some (.val (.int c)), some (.val (.int 9)), some (.val (.int (c / 11))), some (.val (.str x)), x7, fun l fl ρ' h => for_go (i := 3) (tp := [.r (.val (.int 9)), .r (.val (.str x))]) (by kernel_rfl) (by kernel_rfl) (P := (([] : List V).length < room) ∧ ((0 : Int) < 2) ∧ (subO (.val (.lst N)) (c / 11 % 4)).bind (fun v => some (O.val v)) = some (.val (.str x)) ∧ ((0 : Int) < 4) ∧ ((0 : Int) < 11 ∧ (11 : Int) < 2 ^ 29) ∧ (O.val (.int (c % 11)) = .val (.int 9)) ∧ ((0 : Int) < 11) ∧ True) (by kernel_rfl) ⟨by decide, by decide, hx, by decide, by decide, by rw [hk], by decide, trivial⟩ h⟩
theorem tb_num2n {c : Int}  (hx : Pick (.val (.lst N)) (c / 11 % 4) (.val (.str x))) (hk : c % 11 = 2) : TT d C N c [] [.tup [.str z_num, .int (c / 11 % (10 : Int) ^ (60 : Int).toNat)]] x3 x4 x5 x6 x7 :=
  ⟨some (.val (.int c)), some (.val (.int 2)), some (.val (.int (c / 11))), some (.val (.str x)), x7, fun l fl ρ' h => for_go (i := 3) (tp := [.r (.val (.int 2)), .r (.val (.str x))]) (by kernel_rfl) (by kernel_rfl) (P := (([] : List V).length < room) ∧ ((0 : Int) < (10 : Int) ^ (60 : Int).toNat) ∧ ((10 : Int) = 10 ∧ (0 : Int) < 60 ∧ (60 : Int) ≤ 100) ∧ ((0 : Int) < 2) ∧ (subO (.val (.lst N)) (c / 11 % 4)).bind (fun v => some (O.val v)) = some (.val (.str x)) ∧ ((0 : Int) < 4) ∧ ((0 : Int) < 11 ∧ (11 : Int) < 2 ^ 29) ∧ (O.val (.int (c % 11)) = .val (.int 2)) ∧ ((0 : Int) < 11) ∧ True) (by kernel_rfl) ⟨by decide, by decide, by decide, by decide, hx, by decide, by decide, by rw [hk], by decide, trivial⟩ h⟩
theorem tb_num4 {c : Int}  (hx : Pick (.val (.lst N)) (c / 11 % 4) (.val (.str x))) (hk : c % 11 = 4) : TT d C N c [] [.tup [.str z_num, .int (c / 11 % (10 : Int) ^ (60 : Int).toNat)]] x3 x4 x5 x6 x7 :=
  ⟨some (.val (.int c)), some (.val (.int 4)), some (.val (.int (c / 11))), some (.val (.str x)), x7, fun l fl ρ' h => for_go (i := 3) (tp := [.r (.val (.int 4)), .r (.val (.str x))]) (by kernel_rfl) (by kernel_rfl) (P := (([] : List V).length < room) ∧ ((0 : Int) < (10 : Int) ^ (60 : Int).toNat) ∧ ((10 : Int) = 10 ∧ (0 : Int) < 60 ∧ (60 : Int) ≤ 100) ∧ ((0 : Int) < 2) ∧ (subO (.val (.lst N)) (c / 11 % 4)).bind (fun v => some (O.val v)) = some (.val (.str x)) ∧ ((0 : Int) < 4) ∧ ((0 : Int) < 11 ∧ (11 : Int) < 2 ^ 29) ∧ (O.val (.int (c % 11)) = .val (.int 4)) ∧ ((0 : Int) < 11) ∧ True) (by kernel_rfl) ⟨by decide, by decide, by decide, by decide, hx, by decide, by decide, by rw [hk], by decide, trivial⟩ h⟩
theorem tb_num6 {c : Int}  (hx : Pick (.val (.lst N)) (c / 11 % 4) (.val (.str x))) (hk : c % 11 = 6) : TT d C N c [] [.tup [.str z_num, .int (c / 11 % (10 : Int) ^ (60 : Int).toNat)]] x3 x4 x5 x6 x7 :=
  ⟨some (.val (.int c)), some (.val (.int 6)), some (.val (.int (c / 11))), some (.val (.str x)), x7, fun l fl ρ' h => for_go (i := 3) (tp := [.r (.val (.int 6)), .r (.val (.str x))]) (by kernel_rfl) (by kernel_rfl) (P := (([] : List V).length < room) ∧ ((0 : Int) < (10 : Int) ^ (60 : Int).toNat) ∧ ((10 : Int) = 10 ∧ (0 : Int) < 60 ∧ (60 : Int) ≤ 100) ∧ ((0 : Int) < 2) ∧ (subO (.val (.lst N)) (c / 11 % 4)).bind (fun v => some (O.val v)) = some (.val (.str x)) ∧ ((0 : Int) < 4) ∧ ((0 : Int) < 11 ∧ (11 : Int) < 2 ^ 29) ∧ (O.val (.int (c % 11)) = .val (.int 6)) ∧ ((0 : Int) < 11) ∧ True) (by kernel_rfl) ⟨by decide, by decide, by decide, by decide, hx, by decide, by decide, by rw [hk], by decide, trivial⟩ h⟩
theorem tb_num8 {c : Int}  (hx : Pick (.val (.lst N)) (c / 11 % 4) (.val (.str x))) (hk : c % 11 = 8) : TT d C N c [] [.tup [.str z_num, .int (c / 11 % (10 : Int) ^ (60 : Int).toNat)]] x3 x4 x5 x6 x7 :=
  ⟨some (.val (.int c)), some (.val (.int 8)), some (.val (.int (c / 11))), some (.val (.str x)), x7, fun l fl ρ' h => for_go (i := 3) (tp := [.r (.val (.int 8)), .r (.val (.str x))]) (by kernel_rfl) (by kernel_rfl) (P := (([] : List V).length < room) ∧ ((0 : Int) < (10 : Int) ^ (60 : Int).toNat) ∧ ((10 : Int) = 10 ∧ (0 : Int) < 60 ∧ (60 : Int) ≤ 100) ∧ ((0 : Int) < 2) ∧ (subO (.val (.lst N)) (c / 11 % 4)).bind (fun v => some (O.val v)) = some (.val (.str x)) ∧ ((0 : Int) < 4) ∧ ((0 : Int) < 11 ∧ (11 : Int) < 2 ^ 29) ∧ (O.val (.int (c % 11)) = .val (.int 8)) ∧ ((0 : Int) < 11) ∧ True) (by kernel_rfl) ⟨by decide, by decide, by decide, by decide, hx, by decide, by decide, by rw [hk], by decide, trivial⟩ h⟩
theorem tb_num10 {c : Int}  (hx : Pick (.val (.lst N)) (c / 11 % 4) (.val (.str x))) (hk : c % 11 = 10) : TT d C N c [] [.tup [.str z_num, .int (c / 11 % (10 : Int) ^ (60 : Int).toNat)]] x3 x4 x5 x6 x7 :=
  ⟨some (.val (.int c)), some (.val (.int 10)), some (.val (.int (c / 11))), some (.val (.str x)), x7, fun l fl ρ' h => for_go (i := 3) (tp := [.r (.val (.int 10)), .r (.val (.str x))]) (by kernel_rfl) (by kernel_rfl) (P := (([] : List V).length < room) ∧ ((0 : Int) < (10 : Int) ^ (60 : Int).toNat) ∧ ((10 : Int) = 10 ∧ (0 : Int) < 60 ∧ (60 : Int) ≤ 100) ∧ ((0 : Int) < 2) ∧ (subO (.val (.lst N)) (c / 11 % 4)).bind (fun v => some (O.val v)) = some (.val (.str x)) ∧ ((0 : Int) < 4) ∧ ((0 : Int) < 11 ∧ (11 : Int) < 2 ^ 29) ∧ (O.val (.int (c % 11)) = .val (.int 10)) ∧ ((0 : Int) < 11) ∧ True) (by kernel_rfl) ⟨by decide, by decide, by decide, by decide, hx, by decide, by decide, by rw [hk], by decide, trivial⟩ h⟩
theorem tb_fun {c : Int} {S : List V} {a : V} (hx : Pick (.val (.lst N)) (c / 11 % 4) (.val (.str x))) (hk : c % 11 = 3) : TT d C N c (a :: S) (.tup [.str z_fun, .str x, a] :: S) x3 x4 x5 x6 x7 :=
  ⟨some (.val (.int c)), some (.val (.int 3)), some (.val (.int (c / 11))), some (.val (.str x)), x7, fun l fl ρ' h => for_go (i := 3) (tp := [.r (.val (.int 3)), .r (.val (.str x))]) (by kernel_rfl) (by kernel_rfl) (P := (subO (.val (.lst N)) (c / 11 % 4)).bind (fun v => some (O.val v)) = some (.val (.str x)) ∧ ((0 : Int) < 4) ∧ ((0 : Int) < 11 ∧ (11 : Int) < 2 ^ 29) ∧ (O.val (.int (c % 11)) = .val (.int 3)) ∧ ((0 : Int) < 11) ∧ True) (by kernel_rfl) ⟨hx, by decide, by decide, by rw [hk], by decide, trivial⟩ h⟩
theorem tb_call {c : Int} {S : List V} {a : V} (hx : Pick (.val (.lst N)) (c / 11 % 4) (.val (.str x))) (hk : c % 11 = 4) : TT d C N c (a :: S) (.tup [.str z_call, a, .tup [.str z_name, .str x]] :: S) x3 x4 x5 x6 x7 :=
  ⟨some (.val (.int c)), some (.val (.int 4)), some (.val (.int (c / 11))), some (.val (.str x)), x7, fun l fl ρ' h => for_go (i := 3) (tp := [.r (.val (.int 4)), .r (.val (.str x))]) (by kernel_rfl) (by kernel_rfl) (P := (subO (.val (.lst N)) (c / 11 % 4)).bind (fun v => some (O.val v)) = some (.val (.str x)) ∧ ((0 : Int) < 4) ∧ ((0 : Int) < 11 ∧ (11 : Int) < 2 ^ 29) ∧ (O.val (.int (c % 11)) = .val (.int 4)) ∧ ((0 : Int) < 11) ∧ True) (by kernel_rfl) ⟨hx, by decide, by decide, by rw [hk], by decide, trivial⟩ h⟩
theorem tb_let {c : Int} {S : List V} {a : V} (hx : Pick (.val (.lst N)) (c / 11 % 4) (.val (.str x))) (hk : c % 11 = 5) : TT d C N c (a :: S) (.tup [.str z_let, .str x, .tup [.str z_name, .str x], a] :: S) x3 x4 x5 x6 x7 :=
  ⟨some (.val (.int c)), some (.val (.int 5)), some (.val (.int (c / 11))), some (.val (.str x)), x7, fun l fl ρ' h => for_go (i := 3) (tp := [.r (.val (.int 5)), .r (.val (.str x))]) (by kernel_rfl) (by kernel_rfl) (P := (subO (.val (.lst N)) (c / 11 % 4)).bind (fun v => some (O.val v)) = some (.val (.str x)) ∧ ((0 : Int) < 4) ∧ ((0 : Int) < 11 ∧ (11 : Int) < 2 ^ 29) ∧ (O.val (.int (c % 11)) = .val (.int 5)) ∧ ((0 : Int) < 11) ∧ True) (by kernel_rfl) ⟨hx, by decide, by decide, by rw [hk], by decide, trivial⟩ h⟩
theorem tb_less6 {c : Int} {a : V} (hx : Pick (.val (.lst N)) (c / 11 % 4) (.val (.str x))) (hk : c % 11 = 6) : TT d C N c [a] [.tup [.str z_less, .tup [.str z_name, .str x], a]] x3 x4 x5 x6 x7 :=
  ⟨some (.val (.int c)), some (.val (.int 6)), some (.val (.int (c / 11))), some (.val (.str x)), x7, fun l fl ρ' h => for_go (i := 3) (tp := [.r (.val (.int 6)), .r (.val (.str x))]) (by kernel_rfl) (by kernel_rfl) (P := (subO (.val (.lst N)) (c / 11 % 4)).bind (fun v => some (O.val v)) = some (.val (.str x)) ∧ ((0 : Int) < 4) ∧ ((0 : Int) < 11 ∧ (11 : Int) < 2 ^ 29) ∧ (O.val (.int (c % 11)) = .val (.int 6)) ∧ ((0 : Int) < 11) ∧ True) (by kernel_rfl) ⟨hx, by decide, by decide, by rw [hk], by decide, trivial⟩ h⟩
theorem tb_join6 {c : Int} {S : List V} {a b : V} (hx : Pick (.val (.lst N)) (c / 11 % 4) (.val (.str x))) (hk : c % 11 = 6) : TT d C N c (a :: b :: S) (.tup [.str z_call, .tup [.str z_fun, .str x, b], a] :: S) x3 x4 x5 x6 x7 :=
  ⟨some (.val (.int c)), some (.val (.int 6)), some (.val (.int (c / 11))), some (.val (.str x)), some (.val a), fun l fl ρ' h => for_go (i := 3) (tp := [.r (.val (.int 6)), .r (.val (.str x)), .r (.val (.tup [.str z_call, .tup [.str z_fun, .str x, b], a]))]) (by kernel_rfl) (by kernel_rfl) (P := CallOK G (d + 1) 54 [.int 6, .str x, b, a] (.val (.tup [.str z_call, .tup [.str z_fun, .str x, b], a])) ∧ (subO (.val (.lst N)) (c / 11 % 4)).bind (fun v => some (O.val v)) = some (.val (.str x)) ∧ ((0 : Int) < 4) ∧ ((0 : Int) < 11 ∧ (11 : Int) < 2 ^ 29) ∧ (O.val (.int (c % 11)) = .val (.int 6)) ∧ ((0 : Int) < 11) ∧ True) (by kernel_rfl) ⟨ok_join6 b a, hx, by decide, by decide, by rw [hk], by decide, trivial⟩ h⟩
theorem tb_less7 {c : Int} {a : V} (hx : Pick (.val (.lst N)) (c / 11 % 4) (.val (.str x))) (hk : c % 11 = 7) : TT d C N c [a] [.tup [.str z_less, .tup [.str z_name, .str x], a]] x3 x4 x5 x6 x7 :=
  ⟨some (.val (.int c)), some (.val (.int 7)), some (.val (.int (c / 11))), some (.val (.str x)), x7, fun l fl ρ' h => for_go (i := 3) (tp := [.r (.val (.int 7)), .r (.val (.str x))]) (by kernel_rfl) (by kernel_rfl) (P := (subO (.val (.lst N)) (c / 11 % 4)).bind (fun v => some (O.val v)) = some (.val (.str x)) ∧ ((0 : Int) < 4) ∧ ((0 : Int) < 11 ∧ (11 : Int) < 2 ^ 29) ∧ (O.val (.int (c % 11)) = .val (.int 7)) ∧ ((0 : Int) < 11) ∧ True) (by kernel_rfl) ⟨hx, by decide, by decide, by rw [hk], by decide, trivial⟩ h⟩
theorem tb_join7 {c : Int} {S : List V} {a b : V} (hx : Pick (.val (.lst N)) (c / 11 % 4) (.val (.str x))) (hk : c % 11 = 7) : TT d C N c (a :: b :: S) (.tup [.str z_plus, b, a] :: S) x3 x4 x5 x6 x7 :=
  ⟨some (.val (.int c)), some (.val (.int 7)), some (.val (.int (c / 11))), some (.val (.str x)), some (.val a), fun l fl ρ' h => for_go (i := 3) (tp := [.r (.val (.int 7)), .r (.val (.str x)), .r (.val (.tup [.str z_plus, b, a]))]) (by kernel_rfl) (by kernel_rfl) (P := CallOK G (d + 1) 54 [.int 7, .str x, b, a] (.val (.tup [.str z_plus, b, a])) ∧ (subO (.val (.lst N)) (c / 11 % 4)).bind (fun v => some (O.val v)) = some (.val (.str x)) ∧ ((0 : Int) < 4) ∧ ((0 : Int) < 11 ∧ (11 : Int) < 2 ^ 29) ∧ (O.val (.int (c % 11)) = .val (.int 7)) ∧ ((0 : Int) < 11) ∧ True) (by kernel_rfl) ⟨ok_join7 b a, hx, by decide, by decide, by rw [hk], by decide, trivial⟩ h⟩
theorem tb_less8 {c : Int} {a : V} (hx : Pick (.val (.lst N)) (c / 11 % 4) (.val (.str x))) (hk : c % 11 = 8) : TT d C N c [a] [.tup [.str z_less, .tup [.str z_name, .str x], a]] x3 x4 x5 x6 x7 :=
  ⟨some (.val (.int c)), some (.val (.int 8)), some (.val (.int (c / 11))), some (.val (.str x)), x7, fun l fl ρ' h => for_go (i := 3) (tp := [.r (.val (.int 8)), .r (.val (.str x))]) (by kernel_rfl) (by kernel_rfl) (P := (subO (.val (.lst N)) (c / 11 % 4)).bind (fun v => some (O.val v)) = some (.val (.str x)) ∧ ((0 : Int) < 4) ∧ ((0 : Int) < 11 ∧ (11 : Int) < 2 ^ 29) ∧ (O.val (.int (c % 11)) = .val (.int 8)) ∧ ((0 : Int) < 11) ∧ True) (by kernel_rfl) ⟨hx, by decide, by decide, by rw [hk], by decide, trivial⟩ h⟩
theorem tb_join8 {c : Int} {S : List V} {a b : V} (hx : Pick (.val (.lst N)) (c / 11 % 4) (.val (.str x))) (hk : c % 11 = 8) : TT d C N c (a :: b :: S) (.tup [.str z_less, b, a] :: S) x3 x4 x5 x6 x7 :=
  ⟨some (.val (.int c)), some (.val (.int 8)), some (.val (.int (c / 11))), some (.val (.str x)), some (.val a), fun l fl ρ' h => for_go (i := 3) (tp := [.r (.val (.int 8)), .r (.val (.str x)), .r (.val (.tup [.str z_less, b, a]))]) (by kernel_rfl) (by kernel_rfl) (P := CallOK G (d + 1) 54 [.int 8, .str x, b, a] (.val (.tup [.str z_less, b, a])) ∧ (subO (.val (.lst N)) (c / 11 % 4)).bind (fun v => some (O.val v)) = some (.val (.str x)) ∧ ((0 : Int) < 4) ∧ ((0 : Int) < 11 ∧ (11 : Int) < 2 ^ 29) ∧ (O.val (.int (c % 11)) = .val (.int 8)) ∧ ((0 : Int) < 11) ∧ True) (by kernel_rfl) ⟨ok_join8 b a, hx, by decide, by decide, by rw [hk], by decide, trivial⟩ h⟩
theorem tb_less9 {c : Int} {a : V} (hx : Pick (.val (.lst N)) (c / 11 % 4) (.val (.str x))) (hk : c % 11 = 9) : TT d C N c [a] [.tup [.str z_less, .tup [.str z_name, .str x], a]] x3 x4 x5 x6 x7 :=
  ⟨some (.val (.int c)), some (.val (.int 9)), some (.val (.int (c / 11))), some (.val (.str x)), x7, fun l fl ρ' h => for_go (i := 3) (tp := [.r (.val (.int 9)), .r (.val (.str x))]) (by kernel_rfl) (by kernel_rfl) (P := (subO (.val (.lst N)) (c / 11 % 4)).bind (fun v => some (O.val v)) = some (.val (.str x)) ∧ ((0 : Int) < 4) ∧ ((0 : Int) < 11 ∧ (11 : Int) < 2 ^ 29) ∧ (O.val (.int (c % 11)) = .val (.int 9)) ∧ ((0 : Int) < 11) ∧ True) (by kernel_rfl) ⟨hx, by decide, by decide, by rw [hk], by decide, trivial⟩ h⟩
theorem tb_join9 {c : Int} {S : List V} {a b : V} (hx : Pick (.val (.lst N)) (c / 11 % 4) (.val (.str x))) (hk : c % 11 = 9) : TT d C N c (a :: b :: S) (.tup [.str z_if, b, a, .tup [.str z_name, .str x]] :: S) x3 x4 x5 x6 x7 :=
  ⟨some (.val (.int c)), some (.val (.int 9)), some (.val (.int (c / 11))), some (.val (.str x)), some (.val a), fun l fl ρ' h => for_go (i := 3) (tp := [.r (.val (.int 9)), .r (.val (.str x)), .r (.val (.tup [.str z_if, b, a, .tup [.str z_name, .str x]]))]) (by kernel_rfl) (by kernel_rfl) (P := CallOK G (d + 1) 54 [.int 9, .str x, b, a] (.val (.tup [.str z_if, b, a, .tup [.str z_name, .str x]])) ∧ (subO (.val (.lst N)) (c / 11 % 4)).bind (fun v => some (O.val v)) = some (.val (.str x)) ∧ ((0 : Int) < 4) ∧ ((0 : Int) < 11 ∧ (11 : Int) < 2 ^ 29) ∧ (O.val (.int (c % 11)) = .val (.int 9)) ∧ ((0 : Int) < 11) ∧ True) (by kernel_rfl) ⟨ok_join9 b a, hx, by decide, by decide, by rw [hk], by decide, trivial⟩ h⟩
theorem tb_less10 {c : Int} {a : V} (hx : Pick (.val (.lst N)) (c / 11 % 4) (.val (.str x))) (hk : c % 11 = 10) : TT d C N c [a] [.tup [.str z_less, .tup [.str z_name, .str x], a]] x3 x4 x5 x6 x7 :=
  ⟨some (.val (.int c)), some (.val (.int 10)), some (.val (.int (c / 11))), some (.val (.str x)), x7, fun l fl ρ' h => for_go (i := 3) (tp := [.r (.val (.int 10)), .r (.val (.str x))]) (by kernel_rfl) (by kernel_rfl) (P := (subO (.val (.lst N)) (c / 11 % 4)).bind (fun v => some (O.val v)) = some (.val (.str x)) ∧ ((0 : Int) < 4) ∧ ((0 : Int) < 11 ∧ (11 : Int) < 2 ^ 29) ∧ (O.val (.int (c % 11)) = .val (.int 10)) ∧ ((0 : Int) < 11) ∧ True) (by kernel_rfl) ⟨hx, by decide, by decide, by rw [hk], by decide, trivial⟩ h⟩
theorem tb_join10 {c : Int} {S : List V} {a b : V} (hx : Pick (.val (.lst N)) (c / 11 % 4) (.val (.str x))) (hk : c % 11 = 10) : TT d C N c (a :: b :: S) (.tup [.str z_let, .str x, b, a] :: S) x3 x4 x5 x6 x7 :=
  ⟨some (.val (.int c)), some (.val (.int 10)), some (.val (.int (c / 11))), some (.val (.str x)), some (.val a), fun l fl ρ' h => for_go (i := 3) (tp := [.r (.val (.int 10)), .r (.val (.str x)), .r (.val (.tup [.str z_let, .str x, b, a]))]) (by kernel_rfl) (by kernel_rfl) (P := CallOK G (d + 1) 54 [.int 10, .str x, b, a] (.val (.tup [.str z_let, .str x, b, a])) ∧ (subO (.val (.lst N)) (c / 11 % 4)).bind (fun v => some (O.val v)) = some (.val (.str x)) ∧ ((0 : Int) < 4) ∧ ((0 : Int) < 11 ∧ (11 : Int) < 2 ^ 29) ∧ (O.val (.int (c % 11)) = .val (.int 10)) ∧ ((0 : Int) < 11) ∧ True) (by kernel_rfl) ⟨ok_join10 b a, hx, by decide, by decide, by rw [hk], by decide, trivial⟩ h⟩
theorem szs_cons (t : Mine.Tree) (ts : List Mine.Tree) : szs (t :: ts) = sz t + szs ts := rfl
theorem tb_turn {a b e f : List Nat} (hN : N = [.str a, .str b, .str e, .str f]) (c : Int) (ts : List Mine.Tree) (hs : szs ts < 1000) : ∃ ts' : List Mine.Tree, szs ts' ≤ szs ts + 2 ∧ TT d C N c (ts.map tv) (ts'.map tv) x3 x4 x5 x6 x7 := by
  obtain ⟨x, hx⟩ := pick4 a b e f (c / 11)
  rw [← hN] at hx
  have hl := szs_len ts
  have hS : (ts.map tv).length < room := by rw [List.length_map]; show ts.length < 1000000; omega
  obtain ⟨k, hk, h⟩ := mod_cases c 11 (by decide)
  have h : c % 11 = (k : Int) := h
  match k, hk, h, ts with
  | 0, _, h, ts => exact ⟨.name x :: ts, by rw [szs_cons]; show 1 + szs ts ≤ _; omega, tb_name0 hx h hS⟩
  | 1, _, h, ts => exact ⟨.name x :: ts, by rw [szs_cons]; show 1 + szs ts ≤ _; omega, tb_name1 hx h hS⟩
  | 2, _, h, t :: ts => exact ⟨.num (c / 11 % (10 : Int) ^ (60 : Int).toNat) :: t :: ts, by rw [szs_cons]; show 1 + szs (t :: ts) ≤ _; omega, tb_num2 hx h hS⟩
  | 2, _, h, [] => exact ⟨[.num (c / 11 % (10 : Int) ^ (60 : Int).toNat)], by rw [szs_cons]; show 1 + 0 ≤ 0 + 2; omega, tb_num2n hx h⟩
  | 3, _, h, [] => exact ⟨[.name x], by rw [szs_cons]; show 1 + 0 ≤ 0 + 2; omega, tb_name3 hx h⟩
  | 5, _, h, [] => exact ⟨[.name x], by rw [szs_cons]; show 1 + 0 ≤ 0 + 2; omega, tb_name5 hx h⟩
  | 7, _, h, [] => exact ⟨[.name x], by rw [szs_cons]; show 1 + 0 ≤ 0 + 2; omega, tb_name7 hx h⟩
  | 9, _, h, [] => exact ⟨[.name x], by rw [szs_cons]; show 1 + 0 ≤ 0 + 2; omega, tb_name9 hx h⟩
  | 4, _, h, [] => exact ⟨[.num (c / 11 % (10 : Int) ^ (60 : Int).toNat)], by rw [szs_cons]; show 1 + 0 ≤ 0 + 2; omega, tb_num4 hx h⟩
  | 6, _, h, [] => exact ⟨[.num (c / 11 % (10 : Int) ^ (60 : Int).toNat)], by rw [szs_cons]; show 1 + 0 ≤ 0 + 2; omega, tb_num6 hx h⟩
  | 8, _, h, [] => exact ⟨[.num (c / 11 % (10 : Int) ^ (60 : Int).toNat)], by rw [szs_cons]; show 1 + 0 ≤ 0 + 2; omega, tb_num8 hx h⟩
  | 10, _, h, [] => exact ⟨[.num (c / 11 % (10 : Int) ^ (60 : Int).toNat)], by rw [szs_cons]; show 1 + 0 ≤ 0 + 2; omega, tb_num10 hx h⟩
  | 3, _, h, t :: ts => exact ⟨.fn x t :: ts, by rw [szs_cons, szs_cons]; show sz t + 1 + szs ts ≤ _; omega, tb_fun hx h⟩
  | 4, _, h, t :: ts => exact ⟨.call t (.name x) :: ts, by rw [szs_cons, szs_cons]; show sz t + 1 + 1 + szs ts ≤ _; omega, tb_call hx h⟩
  | 5, _, h, t :: ts => exact ⟨.lt x (.name x) t :: ts, by rw [szs_cons, szs_cons]; show 1 + sz t + 1 + szs ts ≤ _; omega, tb_let hx h⟩
  | 6, _, h, [t] => exact ⟨[.less (.name x) t], by rw [szs_cons, szs_cons]; show 1 + sz t + 1 + 0 ≤ sz t + 0 + 2; omega, tb_less6 hx h⟩
  | 6, _, h, t :: u :: ts => exact ⟨.call (.fn x u) t :: ts, by rw [szs_cons, szs_cons, szs_cons]; show sz u + 1 + sz t + 1 + szs ts ≤ _; omega, tb_join6 hx h⟩
  | 7, _, h, [t] => exact ⟨[.less (.name x) t], by rw [szs_cons, szs_cons]; show 1 + sz t + 1 + 0 ≤ sz t + 0 + 2; omega, tb_less7 hx h⟩
  | 7, _, h, t :: u :: ts => exact ⟨.plus u t :: ts, by rw [szs_cons, szs_cons, szs_cons]; show sz u + sz t + 1 + szs ts ≤ _; omega, tb_join7 hx h⟩
  | 8, _, h, [t] => exact ⟨[.less (.name x) t], by rw [szs_cons, szs_cons]; show 1 + sz t + 1 + 0 ≤ sz t + 0 + 2; omega, tb_less8 hx h⟩
  | 8, _, h, t :: u :: ts => exact ⟨.less u t :: ts, by rw [szs_cons, szs_cons, szs_cons]; show sz u + sz t + 1 + szs ts ≤ _; omega, tb_join8 hx h⟩
  | 9, _, h, [t] => exact ⟨[.less (.name x) t], by rw [szs_cons, szs_cons]; show 1 + sz t + 1 + 0 ≤ sz t + 0 + 2; omega, tb_less9 hx h⟩
  | 9, _, h, t :: u :: ts => exact ⟨.ite u t (.name x) :: ts, by rw [szs_cons, szs_cons, szs_cons]; show sz u + sz t + 1 + 1 + szs ts ≤ _; omega, tb_join9 hx h⟩
  | 10, _, h, [t] => exact ⟨[.less (.name x) t], by rw [szs_cons, szs_cons]; show 1 + sz t + 1 + 0 ≤ sz t + 0 + 2; omega, tb_less10 hx h⟩
  | 10, _, h, t :: u :: ts => exact ⟨.lt x u t :: ts, by rw [szs_cons, szs_cons, szs_cons]; show sz u + sz t + 1 + szs ts ≤ _; omega, tb_join10 hx h⟩
theorem tb_for {a b e f : List Nat} (hN : N = [.str a, .str b, .str e, .str f]) : ∀ (cs : List Int) (ts : List Mine.Tree) (x3 x4 x5 x6 x7 : Option O), szs ts + 2 * cs.length < 1000 → ∃ (ts' : List Mine.Tree) (y3 y4 y5 y6 y7 : Option O), szs ts' ≤ szs ts + 2 * cs.length ∧ TF d (cs.map .int) (gst C (.lst N) (ts.map tv) x3 x4 x5 x6 x7) .next (gst C (.lst N) (ts'.map tv) y3 y4 y5 y6 y7)
  | [], ts, x3, x4, x5, x6, x7, h => ⟨ts, x3, x4, x5, x6, x7, Nat.le_refl _, for_nil⟩
  | c :: cs, ts, x3, x4, x5, x6, x7, h => by
    rw [List.length_cons] at h
    obtain ⟨t1, h1, z3, z4, z5, z6, z7, h2⟩ := tb_turn (d := d) (C := C) (x3 := x3) (x4 := x4) (x5 := x5) (x6 := x6) (x7 := x7) hN c ts (by omega)
    obtain ⟨t2, y3, y4, y5, y6, y7, h3, h4⟩ := tb_for hN cs t1 z3 z4 z5 z6 z7 (by omega)
    exact ⟨t2, y3, y4, y5, y6, y7, by rw [List.length_cons]; omega, h2 _ _ _ h4⟩
abbrev TW (d : Nat) (ρ : Loc) (Φ : Fl → Loc → Prop) : Prop := WhP (c__law_tree_by_87 d) (l__law_tree_by_87 d) ρ Φ
theorem tb_while {Φ : Fl → Loc → Prop} {a b e f : List Nat} (hN : N = [.str a, .str b, .str e, .str f]) : ∀ (n : Nat) (ts : List Mine.Tree) (t : Mine.Tree) (x3 x4 x5 x6 x7 : Option O), ts.length = n → (∀ t' y3 y4 y5 y6 y7, sz t' ≤ sz t + szs ts + ts.length → TW (d + 1) (gst C (.lst N) [tv t'] y3 y4 y5 y6 y7) Φ) → TW (d + 1) (gst C (.lst N) ((t :: ts).map tv) x3 x4 x5 x6 x7) Φ
  | 0, [], t, x3, x4, x5, x6, x7, _, k => k t _ _ _ _ _ (by omega)
  | n + 1, u :: ts, t, x3, x4, x5, x6, x7, hn, k => by
    obtain ⟨x, hx⟩ := pick4 a b e f ((tv u :: ts.map tv).length : Int)
    rw [← hN] at hx
    refine whp_go true (tp := [.b true, .r (.val (.str x))]) (ρ' := gst C (.lst N) ((.lt x u t :: ts).map tv) x3 x4 x5 x6 (some (.val (tv t)))) (by kernel_rfl) (P := (subO (.val (.lst N)) (((tv u :: ts.map tv).length : Int) % 4)).bind (fun v => some (O.val v)) = some (.val (.str x)) ∧ ((0 : Int) < 4) ∧ decide (((tv t :: tv u :: ts.map tv).length : Int) > 1) = true ∧ True) (by kernel_rfl) ⟨hx, by decide, by simp only [List.length_cons]; rw [decide_eq_true_eq]; omega, trivial⟩ ?_
    refine tb_while hN n ts (.lt x u t) _ _ _ _ _ (by simpa using hn) fun t' y3 y4 y5 y6 y7 ht => k t' _ _ _ _ _ ?_
    have : sz (.lt x u t) = sz u + sz t + 1 := rfl
    rw [szs_cons, List.length_cons]
    omega
theorem ok_tree (a b e f : List Nat) (cs : List Int) (hc : cs.length ≤ 63) : ∃ t : Mine.Tree, sz t ≤ 300 ∧ CallOK G (d + 2) 61 [.lst (cs.map .int), .lst [.str a, .str b, .str e, .str f]] (.val (tv t)) := by
  obtain ⟨ts, y3, y4, y5, y6, y7, h1, h2⟩ := tb_for (d := d) (C := .lst (cs.map .int)) (a := a) (b := b) (e := e) (f := f) rfl cs [] none none none none none (by show 0 + 2 * cs.length < 1000; omega)
  have h1 : szs ts ≤ 0 + 2 * cs.length := h1
  have hl := szs_len ts
  cases ts with
  | nil =>
    have hw : WhilOK G (d + 1) fi__law_tree_by (c__law_tree_by_87 (d + 1)).x (l__law_tree_by_87 (d + 1)).xs (gst (.lst (cs.map .int)) (.lst [.str a, .str b, .str e, .str f]) [] y3 y4 y5 y6 y7) .next (gst (.lst (cs.map .int)) (.lst [.str a, .str b, .str e, .str f]) [] y3 y4 y5 y6 y7) :=
      whil_end false (tp := []) (by kernel_rfl) (P := True) (by kernel_rfl) trivial
    exact ⟨.name a, by show 1 ≤ 300; omega, call_go (n := 6) (tp := [.l .next (gst (.lst (cs.map .int)) (.lst [.str a, .str b, .str e, .str f]) [] y3 y4 y5 y6 y7), .l .next (gst (.lst (cs.map .int)) (.lst [.str a, .str b, .str e, .str f]) [] y3 y4 y5 y6 y7)]) (b__law_tree_by (d + 1)) rfl (b__law_tree_by_x (d + 1)) rfl (by kernel_rfl) (P := WhilOK G (d + 1) fi__law_tree_by (c__law_tree_by_87 (d + 1)).x (l__law_tree_by_87 (d + 1)).xs (gst (.lst (cs.map .int)) (.lst [.str a, .str b, .str e, .str f]) [] y3 y4 y5 y6 y7) .next (gst (.lst (cs.map .int)) (.lst [.str a, .str b, .str e, .str f]) [] y3 y4 y5 y6 y7) ∧ TF d (cs.map .int) (gst (.lst (cs.map .int)) (.lst [.str a, .str b, .str e, .str f]) [] none none none none none) .next (gst (.lst (cs.map .int)) (.lst [.str a, .str b, .str e, .str f]) [] y3 y4 y5 y6 y7) ∧ True) (by kernel_rfl) ⟨hw, h2, trivial⟩⟩
  | cons t ts =>
    obtain ⟨fl, ρ, hw, rfl, t', z3, z4, z5, z6, z7, hz, rfl⟩ := tb_while (d := d) (C := .lst (cs.map .int)) (a := a) (b := b) (e := e) (f := f) (Φ := fun fl ρ => fl = .next ∧ ∃ t' z3 z4 z5 z6 z7, sz t' ≤ sz t + szs ts + ts.length ∧ ρ = gst (.lst (cs.map .int)) (.lst [.str a, .str b, .str e, .str f]) [tv t'] z3 z4 z5 z6 z7) rfl ts.length ts t y3 y4 y5 y6 y7 rfl
      fun t' z3 z4 z5 z6 z7 hz => whp_end false (tp := []) (by kernel_rfl) (P := True) (by kernel_rfl) trivial ⟨rfl, t', z3, z4, z5, z6, z7, hz, rfl⟩
    rw [szs_cons] at h1
    rw [szs_cons, List.length_cons] at hl
    exact ⟨t', by omega, call_go (n := 6) (tp := [.l .next (gst (.lst (cs.map .int)) (.lst [.str a, .str b, .str e, .str f]) ((t :: ts).map tv) y3 y4 y5 y6 y7), .l .next (gst (.lst (cs.map .int)) (.lst [.str a, .str b, .str e, .str f]) [tv t'] z3 z4 z5 z6 z7)]) (b__law_tree_by (d + 1)) rfl (b__law_tree_by_x (d + 1)) rfl (by kernel_rfl) (P := WhilOK G (d + 1) fi__law_tree_by (c__law_tree_by_87 (d + 1)).x (l__law_tree_by_87 (d + 1)).xs (gst (.lst (cs.map .int)) (.lst [.str a, .str b, .str e, .str f]) ((t :: ts).map tv) y3 y4 y5 y6 y7) .next (gst (.lst (cs.map .int)) (.lst [.str a, .str b, .str e, .str f]) [tv t'] z3 z4 z5 z6 z7) ∧ TF d (cs.map .int) (gst (.lst (cs.map .int)) (.lst [.str a, .str b, .str e, .str f]) [] none none none none none) .next (gst (.lst (cs.map .int)) (.lst [.str a, .str b, .str e, .str f]) ((t :: ts).map tv) y3 y4 y5 y6 y7) ∧ True) (by kernel_rfl) ⟨hw, h2, trivial⟩⟩
end
end Mine
end

section
open PySem
set_option autoImplicit false
set_option maxRecDepth 100000
namespace Mine
open Mine.L03
theorem letter (i : Int) : ∃ w, Pick (.val (.str z_abcdefghijklmnopqrstuvwxyz)) (i % 26) (.val (.str [w])) := by
  obtain ⟨k, hk, e1⟩ := mod_cases i 26 (by decide)
  have e1 : i % 26 = Int.ofNat k := e1
  have hl : k < z_abcdefghijklmnopqrstuvwxyz.length := hk
  refine ⟨z_abcdefghijklmnopqrstuvwxyz[k], ?_⟩
  unfold Pick; rw [e1]
  show ((z_abcdefghijklmnopqrstuvwxyz[k]?).bind fun c => some (V.str [c])).bind _ = _
  rw [List.getElem?_eq_getElem hl]; rfl
theorem cut_len (r : List Nat) (a b : Option Nat) : (cut r a b).length ≤ r.length := by
  unfold cut
  rw [List.length_drop]
  cases b with
  | none => exact Nat.sub_le _ _
  | some b => exact Nat.le_trans (Nat.sub_le _ _) (by rw [List.length_take]; exact Nat.min_le_right _ _)
section
variable {d : Nat}
theorem ok_cell (ns : List Int) (m : Nat) : ∃ c, CallOK G (d + 1) 35 [.lst (ns.map .int), .int (Int.ofNat m)] (.val (.int c)) := by
  by_cases h : m < ns.length
  · refine ⟨ns[m], call_go (n := 0) (tp := [.b true, .r (.val (.int ns[m]))]) (b__law_cell_at d) rfl (b__law_cell_at_x d) rfl (by kernel_rfl) (P := Pick (.val (.lst (ns.map .int))) (Int.ofNat m) (.val (.int ns[m])) ∧ decide ((Int.ofNat m) < ((ns.map V.int).length : Int)) = true ∧ True) (by kernel_rfl) ⟨?_, ?_, trivial⟩⟩
    · show ((ns.map V.int)[m]?).bind _ = _
      rw [List.getElem?_map, List.getElem?_eq_getElem h]; rfl
    · rw [List.length_map, decide_eq_true_eq]; exact Int.ofNat_lt.mpr h
  · refine ⟨0, call_go (n := 0) (tp := [.b false]) (b__law_cell_at d) rfl (b__law_cell_at_x d) rfl (by kernel_rfl) (P := decide ((Int.ofNat m) < ((ns.map V.int).length : Int)) = false ∧ True) (by kernel_rfl) ⟨?_, trivial⟩⟩
    rw [List.length_map, decide_eq_false_iff_not]; exact fun q => h (Int.ofNat_lt.mp q)
noncomputable abbrev nst (c : Int) (r : List Nat) (x3 : Option O) : Loc := [some (.val (.int c)), some (.val (.str z_abcdefghijklmnopqrstuvwxyz)), some (.val (.str r)), x3, none, none]
theorem nb_for (c : Int) : ∀ (n : Nat) (a : Int) (r : List Nat) (x3 : Option O), r.length + n ≤ 1000 → ∃ r' y3, r'.length ≤ r.length + n ∧ ForOK G d fi__law_name_by (.Name "_law_turn" ⟨49,8,49,17⟩) (l__law_name_by_49 d).xs (rangeL a n) (nst c r x3) .next (nst c r' y3)
  | 0, a, r, x3, h => ⟨r, x3, Nat.le_refl _, for_nil⟩
  | n + 1, a, r, x3, h => by
    obtain ⟨w, hw⟩ := letter (c / 208 + 7 * a)
    have hl : (r ++ [w]).length = r.length + 1 := by simp
    obtain ⟨r', y3, h1, h2⟩ := nb_for c n (a + 1) (r ++ [w]) (some (.val (.int a))) (by omega)
    exact ⟨r', y3, by omega, for_go (i := 3) (v := .int a) (l := rangeL (a + 1) n) (ρ := nst c r x3) (ρ' := nst c (r ++ [w]) (some (.val (.int a)))) (tp := [.r (.val (.str [w]))]) (by kernel_rfl) (by kernel_rfl) (P := ((r ++ [w]).length ≤ room) ∧ Pick (.val (.str z_abcdefghijklmnopqrstuvwxyz)) ((c / 208 + 7 * a) % 26) (.val (.str [w])) ∧ ((0 : Int) < 26) ∧ ((7 : Int).natAbs < 2 ^ 62 ∨ a.natAbs < 2 ^ 62) ∧ ((0 : Int) < 208 ∧ (208 : Int) < 2 ^ 29) ∧ True) (by kernel_rfl) ⟨by rw [hl]; show _ ≤ 1000000; omega, hw, by decide, .inl (by decide), by decide, trivial⟩ h2⟩
theorem ok_name (c : Int) : ∃ z, CallOK G (d + 1) 47 [.int c] (.val (.str z)) := by
  have h8 := Int.emod_lt_of_pos (c / 26) (b := 8) (by decide)
  have h80 := Int.emod_nonneg (c / 26) (b := 8) (by decide)
  obtain ⟨r, y3, h1, hf⟩ := nb_for (d := d) c (c / 26 % 8 - 0).toNat 0 [] none (by show 0 + _ ≤ 1000; omega)
  have h1 : r.length ≤ 0 + (c / 26 % 8 - 0).toNat := h1
  obtain ⟨w, hw⟩ := letter c
  have a1 := Int.emod_lt_of_pos (c / 208) (b := (r.length : Int) + 1) (by omega)
  have a2 := Int.emod_nonneg (c / 208) (b := (r.length : Int) + 1) (by omega)
  have hat : 0 ≤ (c / 208 % ((r.length : Int) + 1)) ∧ (c / 208 % ((r.length : Int) + 1)) ≤ 1000000 := ⟨a2, by omega⟩
  have c1 := cut_len r none (some (c / 208 % ((r.length : Int) + 1)).toNat)
  have c2 := cut_len r (some (c / 208 % ((r.length : Int) + 1)).toNat) none
  cases hb : [z_num, z_name, z_fun, z_call, z_plus, z_less, z_if, z_let].any (fun t => t == (cut r none (some (c / 208 % ((r.length : Int) + 1)).toNat) ++ [w] ++ cut r (some (c / 208 % ((r.length : Int) + 1)).toNat) none)) with
  | false => exact ⟨_, call_go (n := 5) (tp := [.l .next (nst c r y3), .r (.val (.str [w])), .b false]) (o := .val (.str (cut r none (some (c / 208 % ((r.length : Int) + 1)).toNat) ++ [w] ++ cut r (some (c / 208 % ((r.length : Int) + 1)).toNat) none))) (b__law_name_by d) rfl (b__law_name_by_x d) rfl (by kernel_rfl) (P := [z_num, z_name, z_fun, z_call, z_plus, z_less, z_if, z_let].any (fun t => t == (cut r none (some (c / 208 % ((r.length : Int) + 1)).toNat) ++ [w] ++ cut r (some (c / 208 % ((r.length : Int) + 1)).toNat) none)) = false ∧ ((cut r none (some (c / 208 % ((r.length : Int) + 1)).toNat) ++ [w] ++ cut r (some (c / 208 % ((r.length : Int) + 1)).toNat) none).length ≤ room) ∧ (0 ≤ (c / 208 % ((r.length : Int) + 1)) ∧ (c / 208 % ((r.length : Int) + 1)) ≤ 1000000) ∧ ((cut r none (some (c / 208 % ((r.length : Int) + 1)).toNat) ++ [w]).length ≤ room) ∧ Pick (.val (.str z_abcdefghijklmnopqrstuvwxyz)) (c % 26) (.val (.str [w])) ∧ ((0 : Int) < 26) ∧ (0 ≤ (c / 208 % ((r.length : Int) + 1)) ∧ (c / 208 % ((r.length : Int) + 1)) ≤ 1000000) ∧ (0 < (r.length : Int) + 1) ∧ ((0 : Int) < 208 ∧ (208 : Int) < 2 ^ 29) ∧ ForOK G d fi__law_name_by (.Name "_law_turn" ⟨49,8,49,17⟩) (l__law_name_by_49 d).xs (rangeL 0 (c / 26 % 8 - 0).toNat) (nst c [] none) .next (nst c r y3) ∧ ((c / 26 % 8).natAbs ≤ 1000000) ∧ ((0 : Int) < 8) ∧ ((0 : Int) < 26 ∧ (26 : Int) < 2 ^ 29) ∧ True) (by kernel_rfl) ⟨hb, by simp only [List.length_append, List.length_singleton]; show _ ≤ 1000000; omega, hat, by simp only [List.length_append, List.length_singleton]; show _ ≤ 1000000; omega, hw, by decide, hat, by omega, by decide, hf, by omega, by decide, by decide, trivial⟩⟩
  | true => exact ⟨_, call_go (n := 5) (tp := [.l .next (nst c r y3), .r (.val (.str [w])), .b true, .r (.val (.str [w]))]) (o := .val (.str [w])) (b__law_name_by d) rfl (b__law_name_by_x d) rfl (by kernel_rfl) (P := Pick (.val (.str z_abcdefghijklmnopqrstuvwxyz)) (c % 26) (.val (.str [w])) ∧ ((0 : Int) < 26) ∧ [z_num, z_name, z_fun, z_call, z_plus, z_less, z_if, z_let].any (fun t => t == (cut r none (some (c / 208 % ((r.length : Int) + 1)).toNat) ++ [w] ++ cut r (some (c / 208 % ((r.length : Int) + 1)).toNat) none)) = true ∧ ((cut r none (some (c / 208 % ((r.length : Int) + 1)).toNat) ++ [w] ++ cut r (some (c / 208 % ((r.length : Int) + 1)).toNat) none).length ≤ room) ∧ (0 ≤ (c / 208 % ((r.length : Int) + 1)) ∧ (c / 208 % ((r.length : Int) + 1)) ≤ 1000000) ∧ ((cut r none (some (c / 208 % ((r.length : Int) + 1)).toNat) ++ [w]).length ≤ room) ∧ Pick (.val (.str z_abcdefghijklmnopqrstuvwxyz)) (c % 26) (.val (.str [w])) ∧ ((0 : Int) < 26) ∧ (0 ≤ (c / 208 % ((r.length : Int) + 1)) ∧ (c / 208 % ((r.length : Int) + 1)) ≤ 1000000) ∧ (0 < (r.length : Int) + 1) ∧ ((0 : Int) < 208 ∧ (208 : Int) < 2 ^ 29) ∧ ForOK G d fi__law_name_by (.Name "_law_turn" ⟨49,8,49,17⟩) (l__law_name_by_49 d).xs (rangeL 0 (c / 26 % 8 - 0).toNat) (nst c [] none) .next (nst c r y3) ∧ ((c / 26 % 8).natAbs ≤ 1000000) ∧ ((0 : Int) < 8) ∧ ((0 : Int) < 26 ∧ (26 : Int) < 2 ^ 29) ∧ True) (by kernel_rfl) ⟨hw, by decide, hb, by simp only [List.length_append, List.length_singleton]; show _ ≤ 1000000; omega, hat, by simp only [List.length_append, List.length_singleton]; show _ ≤ 1000000; omega, hw, by decide, hat, by omega, by decide, hf, by omega, by decide, by decide, trivial⟩⟩
theorem kin_word (c : Int) {n0 n1 n2 n3 n4 n5 n6 n7 : Nat} (h0 : Pick (.val (.str z_abcdefghijklmnopqrstuvwxyz)) ((c + 3 * 0) % 26) (.val (.str [n0]))) (h1 : Pick (.val (.str z_abcdefghijklmnopqrstuvwxyz)) ((c + 3 * 1) % 26) (.val (.str [n1]))) (h2 : Pick (.val (.str z_abcdefghijklmnopqrstuvwxyz)) ((c + 3 * 2) % 26) (.val (.str [n2]))) (h3 : Pick (.val (.str z_abcdefghijklmnopqrstuvwxyz)) ((c + 3 * 3) % 26) (.val (.str [n3]))) (h4 : Pick (.val (.str z_abcdefghijklmnopqrstuvwxyz)) ((c + 3 * 4) % 26) (.val (.str [n4]))) (h5 : Pick (.val (.str z_abcdefghijklmnopqrstuvwxyz)) ((c + 3 * 5) % 26) (.val (.str [n5]))) (h6 : Pick (.val (.str z_abcdefghijklmnopqrstuvwxyz)) ((c + 3 * 6) % 26) (.val (.str [n6]))) (h7 : Pick (.val (.str z_abcdefghijklmnopqrstuvwxyz)) ((c + 3 * 7) % 26) (.val (.str [n7]))) : CompL G d (fi__law_kin_by.inner s__law_kin_by_41_24 "_law_k" 5) (e__law_kin_by_41_24 d).x 5 [some (.val (.int c)), some (.val (.int 4)), some (.val (.str z_abcdefghijklmnopqrstuvwxyz)), none, none, none] [.int 0, .int 1, .int 2, .int 3, .int 4, .int 5, .int 6, .int 7] [.str [n0], .str [n1], .str [n2], .str [n3], .str [n4], .str [n5], .str [n6], .str [n7]] :=
  (comp_go (o := .val (.str [n0])) (tp := [.r (.val (.str [n0]))]) (by kernel_rfl) (P := Pick (.val (.str z_abcdefghijklmnopqrstuvwxyz)) ((c + 3 * 0) % 26) (.val (.str [n0])) ∧ ((0 : Int) < 26) ∧ ((3 : Int).natAbs < 2 ^ 62 ∨ (0 : Int).natAbs < 2 ^ 62) ∧ True) (by kernel_rfl) ⟨h0, by decide, .inl (by decide), trivial⟩ (comp_go (o := .val (.str [n1])) (tp := [.r (.val (.str [n1]))]) (by kernel_rfl) (P := Pick (.val (.str z_abcdefghijklmnopqrstuvwxyz)) ((c + 3 * 1) % 26) (.val (.str [n1])) ∧ ((0 : Int) < 26) ∧ ((3 : Int).natAbs < 2 ^ 62 ∨ (1 : Int).natAbs < 2 ^ 62) ∧ True) (by kernel_rfl) ⟨h1, by decide, .inl (by decide), trivial⟩ (comp_go (o := .val (.str [n2])) (tp := [.r (.val (.str [n2]))]) (by kernel_rfl) (P := Pick (.val (.str z_abcdefghijklmnopqrstuvwxyz)) ((c + 3 * 2) % 26) (.val (.str [n2])) ∧ ((0 : Int) < 26) ∧ ((3 : Int).natAbs < 2 ^ 62 ∨ (2 : Int).natAbs < 2 ^ 62) ∧ True) (by kernel_rfl) ⟨h2, by decide, .inl (by decide), trivial⟩ (comp_go (o := .val (.str [n3])) (tp := [.r (.val (.str [n3]))]) (by kernel_rfl) (P := Pick (.val (.str z_abcdefghijklmnopqrstuvwxyz)) ((c + 3 * 3) % 26) (.val (.str [n3])) ∧ ((0 : Int) < 26) ∧ ((3 : Int).natAbs < 2 ^ 62 ∨ (3 : Int).natAbs < 2 ^ 62) ∧ True) (by kernel_rfl) ⟨h3, by decide, .inl (by decide), trivial⟩ (comp_go (o := .val (.str [n4])) (tp := [.r (.val (.str [n4]))]) (by kernel_rfl) (P := Pick (.val (.str z_abcdefghijklmnopqrstuvwxyz)) ((c + 3 * 4) % 26) (.val (.str [n4])) ∧ ((0 : Int) < 26) ∧ ((3 : Int).natAbs < 2 ^ 62 ∨ (4 : Int).natAbs < 2 ^ 62) ∧ True) (by kernel_rfl) ⟨h4, by decide, .inl (by decide), trivial⟩ (comp_go (o := .val (.str [n5])) (tp := [.r (.val (.str [n5]))]) (by kernel_rfl) (P := Pick (.val (.str z_abcdefghijklmnopqrstuvwxyz)) ((c + 3 * 5) % 26) (.val (.str [n5])) ∧ ((0 : Int) < 26) ∧ ((3 : Int).natAbs < 2 ^ 62 ∨ (5 : Int).natAbs < 2 ^ 62) ∧ True) (by kernel_rfl) ⟨h5, by decide, .inl (by decide), trivial⟩ (comp_go (o := .val (.str [n6])) (tp := [.r (.val (.str [n6]))]) (by kernel_rfl) (P := Pick (.val (.str z_abcdefghijklmnopqrstuvwxyz)) ((c + 3 * 6) % 26) (.val (.str [n6])) ∧ ((0 : Int) < 26) ∧ ((3 : Int).natAbs < 2 ^ 62 ∨ (6 : Int).natAbs < 2 ^ 62) ∧ True) (by kernel_rfl) ⟨h6, by decide, .inl (by decide), trivial⟩ (comp_go (o := .val (.str [n7])) (tp := [.r (.val (.str [n7]))]) (by kernel_rfl) (P := Pick (.val (.str z_abcdefghijklmnopqrstuvwxyz)) ((c + 3 * 7) % 26) (.val (.str [n7])) ∧ ((0 : Int) < 26) ∧ ((3 : Int).natAbs < 2 ^ 62 ∨ (7 : Int).natAbs < 2 ^ 62) ∧ True) (by kernel_rfl) ⟨h7, by decide, .inl (by decide), trivial⟩ comp_nil))))))))
theorem kin_short (c : Int) {n0 n1 n2 n3 n4 n5 n6 n7 : Nat} : CompL G d (fi__law_kin_by.inner s__law_kin_by_43_15 "_law_k" 5) (e__law_kin_by_43_15 d).x 5 [some (.val (.int c)), some (.val (.int 4)), some (.val (.str z_abcdefghijklmnopqrstuvwxyz)), some (.val (.str [n0, n1, n2, n3, n4, n5, n6, n7])), none, none] [.int 0, .int 1, .int 2, .int 3] [.str [n0], .str [n0, n1], .str [n0, n1, n2], .str [n0, n1, n2, n3]] :=
  (comp_go (o := .val (.str [n0])) (tp := []) (by kernel_rfl) (P := (0 ≤ ((0 : Int) + 1) ∧ ((0 : Int) + 1) ≤ 1000000) ∧ True) (by kernel_rfl) (by decide) (comp_go (o := .val (.str [n0, n1])) (tp := []) (by kernel_rfl) (P := (0 ≤ ((1 : Int) + 1) ∧ ((1 : Int) + 1) ≤ 1000000) ∧ True) (by kernel_rfl) (by decide) (comp_go (o := .val (.str [n0, n1, n2])) (tp := []) (by kernel_rfl) (P := (0 ≤ ((2 : Int) + 1) ∧ ((2 : Int) + 1) ≤ 1000000) ∧ True) (by kernel_rfl) (by decide) (comp_go (o := .val (.str [n0, n1, n2, n3])) (tp := []) (by kernel_rfl) (P := (0 ≤ ((3 : Int) + 1) ∧ ((3 : Int) + 1) ≤ 1000000) ∧ True) (by kernel_rfl) (by decide) comp_nil))))
theorem kin_turned (c : Int) {n0 n1 n2 n3 n4 n5 n6 n7 : Nat} : CompL G d (fi__law_kin_by.inner s__law_kin_by_44_18 "_law_k" 5) (e__law_kin_by_44_18 d).x 5 [some (.val (.int c)), some (.val (.int 4)), some (.val (.str z_abcdefghijklmnopqrstuvwxyz)), some (.val (.str [n0, n1, n2, n3, n4, n5, n6, n7])), none, none] [.int 0, .int 1, .int 2, .int 3, .int 4, .int 5, .int 6, .int 7] [.str [n0, n1, n2, n3, n4, n5, n6, n7], .str [n1, n2, n3, n4, n5, n6, n7, n0], .str [n2, n3, n4, n5, n6, n7, n0, n1], .str [n3, n4, n5, n6, n7, n0, n1, n2], .str [n4, n5, n6, n7, n0, n1, n2, n3], .str [n5, n6, n7, n0, n1, n2, n3, n4], .str [n6, n7, n0, n1, n2, n3, n4, n5], .str [n7, n0, n1, n2, n3, n4, n5, n6]] :=
  (comp_go (o := .val (.str [n0, n1, n2, n3, n4, n5, n6, n7])) (tp := []) (by kernel_rfl) (P := (8 ≤ 1000000) ∧ (0 ≤ (0 : Int) ∧ (0 : Int) ≤ 1000000) ∧ (0 ≤ (0 : Int) ∧ (0 : Int) ≤ 1000000) ∧ True) (by kernel_rfl) (by decide) (comp_go (o := .val (.str [n1, n2, n3, n4, n5, n6, n7, n0])) (tp := []) (by kernel_rfl) (P := (8 ≤ 1000000) ∧ (0 ≤ (1 : Int) ∧ (1 : Int) ≤ 1000000) ∧ (0 ≤ (1 : Int) ∧ (1 : Int) ≤ 1000000) ∧ True) (by kernel_rfl) (by decide) (comp_go (o := .val (.str [n2, n3, n4, n5, n6, n7, n0, n1])) (tp := []) (by kernel_rfl) (P := (8 ≤ 1000000) ∧ (0 ≤ (2 : Int) ∧ (2 : Int) ≤ 1000000) ∧ (0 ≤ (2 : Int) ∧ (2 : Int) ≤ 1000000) ∧ True) (by kernel_rfl) (by decide) (comp_go (o := .val (.str [n3, n4, n5, n6, n7, n0, n1, n2])) (tp := []) (by kernel_rfl) (P := (8 ≤ 1000000) ∧ (0 ≤ (3 : Int) ∧ (3 : Int) ≤ 1000000) ∧ (0 ≤ (3 : Int) ∧ (3 : Int) ≤ 1000000) ∧ True) (by kernel_rfl) (by decide) (comp_go (o := .val (.str [n4, n5, n6, n7, n0, n1, n2, n3])) (tp := []) (by kernel_rfl) (P := (8 ≤ 1000000) ∧ (0 ≤ (4 : Int) ∧ (4 : Int) ≤ 1000000) ∧ (0 ≤ (4 : Int) ∧ (4 : Int) ≤ 1000000) ∧ True) (by kernel_rfl) (by decide) (comp_go (o := .val (.str [n5, n6, n7, n0, n1, n2, n3, n4])) (tp := []) (by kernel_rfl) (P := (8 ≤ 1000000) ∧ (0 ≤ (5 : Int) ∧ (5 : Int) ≤ 1000000) ∧ (0 ≤ (5 : Int) ∧ (5 : Int) ≤ 1000000) ∧ True) (by kernel_rfl) (by decide) (comp_go (o := .val (.str [n6, n7, n0, n1, n2, n3, n4, n5])) (tp := []) (by kernel_rfl) (P := (8 ≤ 1000000) ∧ (0 ≤ (6 : Int) ∧ (6 : Int) ≤ 1000000) ∧ (0 ≤ (6 : Int) ∧ (6 : Int) ≤ 1000000) ∧ True) (by kernel_rfl) (by decide) (comp_go (o := .val (.str [n7, n0, n1, n2, n3, n4, n5, n6])) (tp := []) (by kernel_rfl) (P := (8 ≤ 1000000) ∧ (0 ≤ (7 : Int) ∧ (7 : Int) ≤ 1000000) ∧ (0 ≤ (7 : Int) ∧ (7 : Int) ≤ 1000000) ∧ True) (by kernel_rfl) (by decide) comp_nil))))))))
theorem kin_back (c : Int) {n0 n1 n2 n3 n4 n5 n6 n7 : Nat} : CompL G d (fi__law_kin_by.inner s__law_kin_by_45_26 "_law_one" 5) (e__law_kin_by_45_26 d).x 5 [some (.val (.int c)), some (.val (.int 4)), some (.val (.str z_abcdefghijklmnopqrstuvwxyz)), some (.val (.str [n0, n1, n2, n3, n4, n5, n6, n7])), some (.val (.lst [.str [n0, n1, n2, n3, n4, n5, n6, n7], .str [n1, n2, n3, n4, n5, n6, n7, n0], .str [n2, n3, n4, n5, n6, n7, n0, n1], .str [n3, n4, n5, n6, n7, n0, n1, n2], .str [n4, n5, n6, n7, n0, n1, n2, n3], .str [n5, n6, n7, n0, n1, n2, n3, n4], .str [n6, n7, n0, n1, n2, n3, n4, n5], .str [n7, n0, n1, n2, n3, n4, n5, n6]])), none] [.str [n0, n1, n2, n3, n4, n5, n6, n7], .str [n1, n2, n3, n4, n5, n6, n7, n0], .str [n2, n3, n4, n5, n6, n7, n0, n1], .str [n3, n4, n5, n6, n7, n0, n1, n2], .str [n4, n5, n6, n7, n0, n1, n2, n3], .str [n5, n6, n7, n0, n1, n2, n3, n4], .str [n6, n7, n0, n1, n2, n3, n4, n5], .str [n7, n0, n1, n2, n3, n4, n5, n6]] [.str [n7, n6, n5, n4, n3, n2, n1, n0], .str [n0, n7, n6, n5, n4, n3, n2, n1], .str [n1, n0, n7, n6, n5, n4, n3, n2], .str [n2, n1, n0, n7, n6, n5, n4, n3], .str [n3, n2, n1, n0, n7, n6, n5, n4], .str [n4, n3, n2, n1, n0, n7, n6, n5], .str [n5, n4, n3, n2, n1, n0, n7, n6], .str [n6, n5, n4, n3, n2, n1, n0, n7]] :=
  (comp_go (o := .val (.str [n7, n6, n5, n4, n3, n2, n1, n0])) (tp := []) (by kernel_rfl) (P := True) (by kernel_rfl) trivial (comp_go (o := .val (.str [n0, n7, n6, n5, n4, n3, n2, n1])) (tp := []) (by kernel_rfl) (P := True) (by kernel_rfl) trivial (comp_go (o := .val (.str [n1, n0, n7, n6, n5, n4, n3, n2])) (tp := []) (by kernel_rfl) (P := True) (by kernel_rfl) trivial (comp_go (o := .val (.str [n2, n1, n0, n7, n6, n5, n4, n3])) (tp := []) (by kernel_rfl) (P := True) (by kernel_rfl) trivial (comp_go (o := .val (.str [n3, n2, n1, n0, n7, n6, n5, n4])) (tp := []) (by kernel_rfl) (P := True) (by kernel_rfl) trivial (comp_go (o := .val (.str [n4, n3, n2, n1, n0, n7, n6, n5])) (tp := []) (by kernel_rfl) (P := True) (by kernel_rfl) trivial (comp_go (o := .val (.str [n5, n4, n3, n2, n1, n0, n7, n6])) (tp := []) (by kernel_rfl) (P := True) (by kernel_rfl) trivial (comp_go (o := .val (.str [n6, n5, n4, n3, n2, n1, n0, n7])) (tp := []) (by kernel_rfl) (P := True) (by kernel_rfl) trivial comp_nil))))))))
theorem ok_kin (c : Int) : ∃ a b e f, CallOK G (d + 1) 40 [.int c, .int 4] (.own [.str f, .str e, .str b, .str a]) := by
  obtain ⟨n0, h0⟩ := letter (c + 3 * 0)
  obtain ⟨n1, h1⟩ := letter (c + 3 * 1)
  obtain ⟨n2, h2⟩ := letter (c + 3 * 2)
  obtain ⟨n3, h3⟩ := letter (c + 3 * 3)
  obtain ⟨n4, h4⟩ := letter (c + 3 * 4)
  obtain ⟨n5, h5⟩ := letter (c + 3 * 5)
  obtain ⟨n6, h6⟩ := letter (c + 3 * 6)
  obtain ⟨n7, h7⟩ := letter (c + 3 * 7)
  have hw := kin_word (d := d) c h0 h1 h2 h3 h4 h5 h6 h7
  cases hb : c / 26 % 2 == 0 with
  | true => exact ⟨[n0], [n0, n1], [n0, n1, n2], [n0, n1, n2, n3], call_go (n := 4) (tp := [.vs [.str [n0], .str [n1], .str [n2], .str [n3], .str [n4], .str [n5], .str [n6], .str [n7]], .b true, .vs [.str [n0], .str [n0, n1], .str [n0, n1, n2], .str [n0, n1, n2, n3]]]) (b__law_kin_by d) rfl (b__law_kin_by_x d) rfl (by kernel_rfl) (P := (CompL G d (fi__law_kin_by.inner s__law_kin_by_43_15 "_law_k" 5) (e__law_kin_by_43_15 d).x 5 [some (.val (.int c)), some (.val (.int 4)), some (.val (.str z_abcdefghijklmnopqrstuvwxyz)), some (.val (.str [n0, n1, n2, n3, n4, n5, n6, n7])), none, none] [.int 0, .int 1, .int 2, .int 3] [.str [n0], .str [n0, n1], .str [n0, n1, n2], .str [n0, n1, n2, n3]] ∧ 4 ≤ 1000000) ∧ (4 ≤ 1000000) ∧ (c / 26 % 2 == 0) = true ∧ ((0 : Int) < 2) ∧ ((0 : Int) < 26 ∧ (26 : Int) < 2 ^ 29) ∧ (8 ≤ 1000000) ∧ (CompL G d (fi__law_kin_by.inner s__law_kin_by_41_24 "_law_k" 5) (e__law_kin_by_41_24 d).x 5 [some (.val (.int c)), some (.val (.int 4)), some (.val (.str z_abcdefghijklmnopqrstuvwxyz)), none, none, none] [.int 0, .int 1, .int 2, .int 3, .int 4, .int 5, .int 6, .int 7] [.str [n0], .str [n1], .str [n2], .str [n3], .str [n4], .str [n5], .str [n6], .str [n7]] ∧ 8 ≤ 1000000) ∧ (8 ≤ 1000000) ∧ True) (by kernel_rfl) ⟨⟨kin_short c, by decide⟩, by decide, hb, by decide, by decide, by decide, ⟨hw, by decide⟩, by decide, trivial⟩⟩
  | false => exact ⟨[n0, n1, n2, n3, n4, n5, n6, n7], [n1, n2, n3, n4, n5, n6, n7, n0], [n2, n3, n4, n5, n6, n7, n0, n1], [n3, n4, n5, n6, n7, n0, n1, n2], call_go (n := 4) (tp := [.vs [.str [n0], .str [n1], .str [n2], .str [n3], .str [n4], .str [n5], .str [n6], .str [n7]], .b false, .vs [.str [n0, n1, n2, n3, n4, n5, n6, n7], .str [n1, n2, n3, n4, n5, n6, n7, n0], .str [n2, n3, n4, n5, n6, n7, n0, n1], .str [n3, n4, n5, n6, n7, n0, n1, n2], .str [n4, n5, n6, n7, n0, n1, n2, n3], .str [n5, n6, n7, n0, n1, n2, n3, n4], .str [n6, n7, n0, n1, n2, n3, n4, n5], .str [n7, n0, n1, n2, n3, n4, n5, n6]], .vs [.str [n7, n6, n5, n4, n3, n2, n1, n0], .str [n0, n7, n6, n5, n4, n3, n2, n1], .str [n1, n0, n7, n6, n5, n4, n3, n2], .str [n2, n1, n0, n7, n6, n5, n4, n3], .str [n3, n2, n1, n0, n7, n6, n5, n4], .str [n4, n3, n2, n1, n0, n7, n6, n5], .str [n5, n4, n3, n2, n1, n0, n7, n6], .str [n6, n5, n4, n3, n2, n1, n0, n7]]]) (b__law_kin_by d) rfl (b__law_kin_by_x d) rfl (by kernel_rfl) (P := (0 ≤ (4 : Int) ∧ (4 : Int) ≤ 1000000) ∧ (16 ≤ 1000000) ∧ (CompL G d (fi__law_kin_by.inner s__law_kin_by_45_26 "_law_one" 5) (e__law_kin_by_45_26 d).x 5 [some (.val (.int c)), some (.val (.int 4)), some (.val (.str z_abcdefghijklmnopqrstuvwxyz)), some (.val (.str [n0, n1, n2, n3, n4, n5, n6, n7])), some (.val (.lst [.str [n0, n1, n2, n3, n4, n5, n6, n7], .str [n1, n2, n3, n4, n5, n6, n7, n0], .str [n2, n3, n4, n5, n6, n7, n0, n1], .str [n3, n4, n5, n6, n7, n0, n1, n2], .str [n4, n5, n6, n7, n0, n1, n2, n3], .str [n5, n6, n7, n0, n1, n2, n3, n4], .str [n6, n7, n0, n1, n2, n3, n4, n5], .str [n7, n0, n1, n2, n3, n4, n5, n6]])), none] [.str [n0, n1, n2, n3, n4, n5, n6, n7], .str [n1, n2, n3, n4, n5, n6, n7, n0], .str [n2, n3, n4, n5, n6, n7, n0, n1], .str [n3, n4, n5, n6, n7, n0, n1, n2], .str [n4, n5, n6, n7, n0, n1, n2, n3], .str [n5, n6, n7, n0, n1, n2, n3, n4], .str [n6, n7, n0, n1, n2, n3, n4, n5], .str [n7, n0, n1, n2, n3, n4, n5, n6]] [.str [n7, n6, n5, n4, n3, n2, n1, n0], .str [n0, n7, n6, n5, n4, n3, n2, n1], .str [n1, n0, n7, n6, n5, n4, n3, n2], .str [n2, n1, n0, n7, n6, n5, n4, n3], .str [n3, n2, n1, n0, n7, n6, n5, n4], .str [n4, n3, n2, n1, n0, n7, n6, n5], .str [n5, n4, n3, n2, n1, n0, n7, n6], .str [n6, n5, n4, n3, n2, n1, n0, n7]] ∧ 8 ≤ 1000000) ∧ (CompL G d (fi__law_kin_by.inner s__law_kin_by_44_18 "_law_k" 5) (e__law_kin_by_44_18 d).x 5 [some (.val (.int c)), some (.val (.int 4)), some (.val (.str z_abcdefghijklmnopqrstuvwxyz)), some (.val (.str [n0, n1, n2, n3, n4, n5, n6, n7])), none, none] [.int 0, .int 1, .int 2, .int 3, .int 4, .int 5, .int 6, .int 7] [.str [n0, n1, n2, n3, n4, n5, n6, n7], .str [n1, n2, n3, n4, n5, n6, n7, n0], .str [n2, n3, n4, n5, n6, n7, n0, n1], .str [n3, n4, n5, n6, n7, n0, n1, n2], .str [n4, n5, n6, n7, n0, n1, n2, n3], .str [n5, n6, n7, n0, n1, n2, n3, n4], .str [n6, n7, n0, n1, n2, n3, n4, n5], .str [n7, n0, n1, n2, n3, n4, n5, n6]] ∧ 8 ≤ 1000000) ∧ (8 ≤ 1000000) ∧ (c / 26 % 2 == 0) = false ∧ ((0 : Int) < 2) ∧ ((0 : Int) < 26 ∧ (26 : Int) < 2 ^ 29) ∧ (8 ≤ 1000000) ∧ (CompL G d (fi__law_kin_by.inner s__law_kin_by_41_24 "_law_k" 5) (e__law_kin_by_41_24 d).x 5 [some (.val (.int c)), some (.val (.int 4)), some (.val (.str z_abcdefghijklmnopqrstuvwxyz)), none, none, none] [.int 0, .int 1, .int 2, .int 3, .int 4, .int 5, .int 6, .int 7] [.str [n0], .str [n1], .str [n2], .str [n3], .str [n4], .str [n5], .str [n6], .str [n7]] ∧ 8 ≤ 1000000) ∧ (8 ≤ 1000000) ∧ True) (by kernel_rfl) ⟨by decide, by decide, ⟨kin_back c, by decide⟩, ⟨kin_turned c, by decide⟩, by decide, hb, by decide, by decide, by decide, ⟨hw, by decide⟩, by decide, trivial⟩⟩
end
end Mine
end

section
open PySem
set_option autoImplicit false
set_option maxRecDepth 100000
namespace Mine
open Mine.L03
noncomputable abbrev lst0 (l : List V) (f s : Int) (x3 : Option O) (N : List V) (t : V) (nm ot : List Nat) (x8 x9 : Option O) (u : V) : Loc := [some (.val (.lst l)), some (.val (.int f)), some (.val (.int s)), x3, some (.val (.lst N)), some (.val t), some (.val (.str nm)), some (.val (.str ot)), x8, x9, some (.val u), none, none]
section
variable {d : Nat}
abbrev LF (d : Nat) (l : List V) (ρ ρ' : Loc) : Prop := ForOK G d fi_law (.Name "_law_k" ⟨129,12,129,18⟩) (l_law_129 d).xs l ρ .next ρ'
theorem lw_for {l : List V} {f s : Int} {a b c e nm ot : List Nat} {x8 x9 : Option O} {u : V} : ∀ (n : Nat) (i : Int) (x3 : Option O) (t : Mine.Tree), ∃ (t' : Mine.Tree) (y3 : Option O), sz t' ≤ sz t + 2 * n ∧ LF d (rangeL i n) (lst0 l f s x3 [.str a, .str b, .str c, .str e] (tv t) nm ot x8 x9 u) (lst0 l f s y3 [.str a, .str b, .str c, .str e] (tv t') nm ot x8 x9 u)
  | 0, i, x3, t => ⟨t, x3, Nat.le_refl _, for_nil⟩
  | n + 1, i, x3, t => by
    obtain ⟨x, hx⟩ := pick4 a b c e i
    obtain ⟨t', y3, h1, h2⟩ := lw_for (n := n) (i + 1) (some (.val (.int i))) (.plus t (.name x))
    have : sz (.plus t (.name x)) = sz t + 1 + 1 := rfl
    exact ⟨t', y3, by omega, for_go (i := 3) (v := .int i) (l := rangeL (i + 1) n) (ρ' := lst0 l f s (some (.val (.int i))) [.str a, .str b, .str c, .str e] (tv (.plus t (.name x))) nm ot x8 x9 u) (tp := [.r (.val (.str x))]) (by kernel_rfl) (by kernel_rfl) (P := Pick (.val (.lst [.str a, .str b, .str c, .str e])) (i % 4) (.val (.str x)) ∧ ((0 : Int) < 4) ∧ True) (by kernel_rfl) ⟨hx, by decide, trivial⟩ h2⟩
theorem pick5 (u0 u1 u2 u3 u4 : Mine.Tree) (i : Int) : ∃ u, (u = u0 ∨ u = u1 ∨ u = u2 ∨ u = u3 ∨ u = u4) ∧ Pick (.own [tv u4, tv u3, tv u2, tv u1, tv u0]) (i % 5) (.val (tv u)) := by
  obtain ⟨k, hk, e1⟩ := mod_cases i 5 (by decide)
  have e1 : i % 5 = Int.ofNat k := e1
  unfold Pick; rw [e1]
  match k, hk with
  | 0, _ => exact ⟨u0, .inl rfl, rfl⟩
  | 1, _ => exact ⟨u1, .inr (.inl rfl), rfl⟩
  | 2, _ => exact ⟨u2, .inr (.inr (.inl rfl)), rfl⟩
  | 3, _ => exact ⟨u3, .inr (.inr (.inr (.inl rfl))), rfl⟩
  | 4, _ => exact ⟨u4, .inr (.inr (.inr (.inr rfl))), rfl⟩
noncomputable def nbr (s : Int) : Int := s / 20 % (2 * (10 : Int) ^ (60 : Int).toNat - 1) - (10 : Int) ^ (60 : Int).toNat + 1
abbrev CA (ns : List Int) (k c : Int) : Prop := CallOK G 2 35 [.lst (ns.map .int), .int k] (.val (.int c))
theorem lw_names (ns : List Int) (f s : Int) {m0 m1 m2 m3 : List Nat} (h0 : CallOK G 2 47 [.int (f - f % 26 + (f + 7 * 0) % 26)] (.val (.str m0))) (h1 : CallOK G 2 47 [.int (f - f % 26 + (f + 7 * 1) % 26)] (.val (.str m1))) (h2 : CallOK G 2 47 [.int (f - f % 26 + (f + 7 * 2) % 26)] (.val (.str m2))) (h3 : CallOK G 2 47 [.int (f - f % 26 + (f + 7 * 3) % 26)] (.val (.str m3))) : CompL G 2 (fi_law.inner s_law_118_17 "_law_k" 12) (e_law_118_17 2).x 12 [some (.val (.lst (ns.map .int))), some (.val (.int f)), some (.val (.int s)), none, none, none, none, none, none, none, none, none, none] [.int 0, .int 1, .int 2, .int 3] [.str m0, .str m1, .str m2, .str m3] :=
  (comp_go (o := .val (.str m0)) (tp := [.r (.val (.str m0))]) (by kernel_rfl) (P := CallOK G 2 47 [.int (f - f % 26 + (f + 7 * 0) % 26)] (.val (.str m0)) ∧ ((0 : Int) < 26) ∧ ((7 : Int).natAbs < 2 ^ 62 ∨ (0 : Int).natAbs < 2 ^ 62) ∧ ((0 : Int) < 26) ∧ True) (by kernel_rfl) ⟨h0, by decide, .inl (by decide), by decide, trivial⟩ (comp_go (o := .val (.str m1)) (tp := [.r (.val (.str m1))]) (by kernel_rfl) (P := CallOK G 2 47 [.int (f - f % 26 + (f + 7 * 1) % 26)] (.val (.str m1)) ∧ ((0 : Int) < 26) ∧ ((7 : Int).natAbs < 2 ^ 62 ∨ (1 : Int).natAbs < 2 ^ 62) ∧ ((0 : Int) < 26) ∧ True) (by kernel_rfl) ⟨h1, by decide, .inl (by decide), by decide, trivial⟩ (comp_go (o := .val (.str m2)) (tp := [.r (.val (.str m2))]) (by kernel_rfl) (P := CallOK G 2 47 [.int (f - f % 26 + (f + 7 * 2) % 26)] (.val (.str m2)) ∧ ((0 : Int) < 26) ∧ ((7 : Int).natAbs < 2 ^ 62 ∨ (2 : Int).natAbs < 2 ^ 62) ∧ ((0 : Int) < 26) ∧ True) (by kernel_rfl) ⟨h2, by decide, .inl (by decide), by decide, trivial⟩ (comp_go (o := .val (.str m3)) (tp := [.r (.val (.str m3))]) (by kernel_rfl) (P := CallOK G 2 47 [.int (f - f % 26 + (f + 7 * 3) % 26)] (.val (.str m3)) ∧ ((0 : Int) < 26) ∧ ((7 : Int).natAbs < 2 ^ 62 ∨ (3 : Int).natAbs < 2 ^ 62) ∧ ((0 : Int) < 26) ∧ True) (by kernel_rfl) ⟨h3, by decide, .inl (by decide), by decide, trivial⟩ comp_nil))))
theorem lw_kl (ns : List Int) {f s g : Int} {m0 m1 m2 m3 nm ot : List Nat} {t u : Mine.Tree} {t2 : Mine.Tree} {y3 : Option O} {a b c e : List Nat} (hf : CA ns 0 f) (hs : CA ns 1 s) (hg : CA ns 2 g) (hn : CompL G 2 (fi_law.inner s_law_118_17 "_law_k" 12) (e_law_118_17 2).x 12 [some (.val (.lst (ns.map .int))), some (.val (.int f)), some (.val (.int s)), none, none, none, none, none, none, none, none, none, none] [.int 0, .int 1, .int 2, .int 3] [.str m0, .str m1, .str m2, .str m3]) (hf3 : (f / 26 % 3 == 1) = true) (hk : CallOK G 2 40 [.int (f / 78), .int 4] (.own [.str e, .str c, .str b, .str a])) (ht : CallOK G 2 61 [.lst (cut (ns.map V.int) (some 8) (some 58)).reverse.reverse, .lst [.str a, .str b, .str c, .str e]] (.val (tv t))) (hnm : Pick (.val (.lst [.str a, .str b, .str c, .str e])) (g % 4) (.val (.str nm))) (hot : Pick (.val (.lst [.str a, .str b, .str c, .str e])) (s / 5 % 4) (.val (.str ot))) (hu : Pick (.own [tv (.fn ot (.fn nm (.call (.name nm) (.name ot)))), tv (.fn nm (.plus (.name nm) (.num (nbr s)))), tv (.fn ot (.name ot)), tv (.num (nbr s)), tv (.num (nbr s))]) (s % 5) (.val (tv u))) (hg8 : (g / 4 % 8 == 1) = true) (hl : LF 2 (rangeL 0 250) (lst0 (ns.map .int) f s none [.str a, .str b, .str c, .str e] (tv t) nm ot (some (.val (tv (.num (nbr s))))) (some (.own [tv (.fn ot (.fn nm (.call (.name nm) (.name ot)))), tv (.fn nm (.plus (.name nm) (.num (nbr s)))), tv (.fn ot (.name ot)), tv (.num (nbr s)), tv (.num (nbr s))])) (tv u)) (lst0 (ns.map .int) f s y3 [.str a, .str b, .str c, .str e] (tv t2) nm ot (some (.val (tv (.num (nbr s))))) (some (.own [tv (.fn ot (.fn nm (.call (.name nm) (.name ot)))), tv (.fn nm (.plus (.name nm) (.num (nbr s)))), tv (.fn ot (.name ot)), tv (.num (nbr s)), tv (.num (nbr s))])) (tv u))) (hz : 4 * (sz t2 + sz u) < room) : CallOK G 3 80 [.lst (ns.map .int)] (.val (.bool true)) :=
  have hz4 : 4 * sz t2 < room := by omega
  call_go (n := 12) (tp := [.r (.val (.int f)), .r (.val (.int s)), .vs [.str m0, .str m1, .str m2, .str m3], .b true, .r (.own [.str e, .str c, .str b, .str a]), .r (.val (tv t)), .r (.val (.int g)), .r (.val (.str nm)), .r (.val (.str ot)), .r (.val (tv u)), .r (.val (.int g)), .b true, .l .next (lst0 (ns.map .int) f s y3 [.str a, .str b, .str c, .str e] (tv t2) nm ot (some (.val (tv (.num (nbr s))))) (some (.own [tv (.fn ot (.fn nm (.call (.name nm) (.name ot)))), tv (.fn nm (.plus (.name nm) (.num (nbr s)))), tv (.fn ot (.name ot)), tv (.num (nbr s)), tv (.num (nbr s))])) (tv u)), .r (.val (sub nm (tv u) t2)), .r (.val (.bool true)), .r (.val (sub z_other (tv u) t2)), .r (.val (.bool true))]) (b_law 2) rfl (b_law_x 2) rfl (by kernel_rfl) (P := CallOK G 2 75 [tv t2, sub z_other (tv u) t2, .str z_other, tv u] (.val (.bool true)) ∧ CallOK G 2 28 [tv t2, .str z_other, tv u] (.val (sub z_other (tv u) t2)) ∧ CallOK G 2 75 [tv t2, sub nm (tv u) t2, .str nm, tv u] (.val (.bool true)) ∧ CallOK G 2 28 [tv t2, .str nm, tv u] (.val (sub nm (tv u) t2)) ∧ LF 2 (rangeL 0 250) (lst0 (ns.map .int) f s none [.str a, .str b, .str c, .str e] (tv t) nm ot (some (.val (tv (.num (nbr s))))) (some (.own [tv (.fn ot (.fn nm (.call (.name nm) (.name ot)))), tv (.fn nm (.plus (.name nm) (.num (nbr s)))), tv (.fn ot (.name ot)), tv (.num (nbr s)), tv (.num (nbr s))])) (tv u)) (lst0 (ns.map .int) f s y3 [.str a, .str b, .str c, .str e] (tv t2) nm ot (some (.val (tv (.num (nbr s))))) (some (.own [tv (.fn ot (.fn nm (.call (.name nm) (.name ot)))), tv (.fn nm (.plus (.name nm) (.num (nbr s)))), tv (.fn ot (.name ot)), tv (.num (nbr s)), tv (.num (nbr s))])) (tv u)) ∧ (250 : Int).natAbs ≤ 1000000 ∧ (g / 4 % 8 == 1) = true ∧ ((0 : Int) < 8) ∧ ((0 : Int) < 4 ∧ (4 : Int) < 2 ^ 29) ∧ CA ns 2 g ∧ Pick (.own [tv (.fn ot (.fn nm (.call (.name nm) (.name ot)))), tv (.fn nm (.plus (.name nm) (.num (nbr s)))), tv (.fn ot (.name ot)), tv (.num (nbr s)), tv (.num (nbr s))]) (s % 5) (.val (tv u)) ∧ ((0 : Int) < 5) ∧ (([tv (.fn nm (.plus (.name nm) (.num (nbr s)))), tv (.fn ot (.name ot)), tv (.num (nbr s)), tv (.num (nbr s))] : List V).length < room) ∧ ((10 : Int) = 10 ∧ (0 : Int) < 60 ∧ (60 : Int) ≤ 100) ∧ ((0 : Int) < 2 * (10 : Int) ^ (60 : Int).toNat - 1) ∧ ((2 : Int).natAbs < 2 ^ 62 ∨ ((10 : Int) ^ (60 : Int).toNat).natAbs < 2 ^ 62) ∧ ((10 : Int) = 10 ∧ (0 : Int) < 60 ∧ (60 : Int) ≤ 100) ∧ ((0 : Int) < 20 ∧ (20 : Int) < 2 ^ 29) ∧ Pick (.val (.lst [.str a, .str b, .str c, .str e])) (s / 5 % 4) (.val (.str ot)) ∧ ((0 : Int) < 4) ∧ ((0 : Int) < 5 ∧ (5 : Int) < 2 ^ 29) ∧ Pick (.val (.lst [.str a, .str b, .str c, .str e])) (g % 4) (.val (.str nm)) ∧ ((0 : Int) < 4) ∧ CA ns 2 g ∧ CallOK G 2 61 [.lst (cut (ns.map V.int) (some 8) (some 58)).reverse.reverse, .lst [.str a, .str b, .str c, .str e]] (.val (tv t)) ∧ ((0 : Int) ≤ 8 ∧ (8 : Int) ≤ 1000000) ∧ ((0 : Int) ≤ 58 ∧ (58 : Int) ≤ 1000000) ∧ CallOK G 2 40 [.int (f / 78), .int 4] (.own [.str e, .str c, .str b, .str a]) ∧ ((0 : Int) < 78 ∧ (78 : Int) < 2 ^ 29) ∧ (f / 26 % 3 == 1) = true ∧ ((0 : Int) < 3) ∧ ((0 : Int) < 26 ∧ (26 : Int) < 2 ^ 29) ∧ (CompL G 2 (fi_law.inner s_law_118_17 "_law_k" 12) (e_law_118_17 2).x 12 [some (.val (.lst (ns.map .int))), some (.val (.int f)), some (.val (.int s)), none, none, none, none, none, none, none, none, none, none] [.int 0, .int 1, .int 2, .int 3] [.str m0, .str m1, .str m2, .str m3] ∧ 4 ≤ 1000000) ∧ (4 ≤ 1000000) ∧ CA ns 1 s ∧ CA ns 0 f ∧ True) (by kernel_rfl) ⟨ok_right (d := 0) t2 u hz, ok_put (d := 0) t2 hz4, ok_right (d := 0) t2 u hz, ok_put (d := 0) t2 hz4, hl, by decide, hg8, by decide, by decide, hg, hu, by decide, by show 4 < 1000000; decide, by decide, by decide, .inl (by decide), by decide, by decide, hot, by decide, by decide, hnm, by decide, hg, ht, by decide, by decide, hk, by decide, hf3, by decide, by decide, ⟨hn, by decide⟩, by decide, hs, hf, trivial⟩
theorem lw_ks (ns : List Int) {f s g : Int} {m0 m1 m2 m3 nm ot : List Nat} {t u : Mine.Tree} {a b c e : List Nat} (hf : CA ns 0 f) (hs : CA ns 1 s) (hg : CA ns 2 g) (hn : CompL G 2 (fi_law.inner s_law_118_17 "_law_k" 12) (e_law_118_17 2).x 12 [some (.val (.lst (ns.map .int))), some (.val (.int f)), some (.val (.int s)), none, none, none, none, none, none, none, none, none, none] [.int 0, .int 1, .int 2, .int 3] [.str m0, .str m1, .str m2, .str m3]) (hf3 : (f / 26 % 3 == 1) = true) (hk : CallOK G 2 40 [.int (f / 78), .int 4] (.own [.str e, .str c, .str b, .str a])) (ht : CallOK G 2 61 [.lst (cut (ns.map V.int) (some 8) (some 58)).reverse.reverse, .lst [.str a, .str b, .str c, .str e]] (.val (tv t))) (hnm : Pick (.val (.lst [.str a, .str b, .str c, .str e])) (g % 4) (.val (.str nm))) (hot : Pick (.val (.lst [.str a, .str b, .str c, .str e])) (s / 5 % 4) (.val (.str ot))) (hu : Pick (.own [tv (.fn ot (.fn nm (.call (.name nm) (.name ot)))), tv (.fn nm (.plus (.name nm) (.num (nbr s)))), tv (.fn ot (.name ot)), tv (.num (nbr s)), tv (.num (nbr s))]) (s % 5) (.val (tv u))) (hg8 : (g / 4 % 8 == 1) = false) (hz : 4 * (sz t + sz u) < room) : CallOK G 3 80 [.lst (ns.map .int)] (.val (.bool true)) :=
  have hz4 : 4 * sz t < room := by omega
  call_go (n := 12) (tp := [.r (.val (.int f)), .r (.val (.int s)), .vs [.str m0, .str m1, .str m2, .str m3], .b true, .r (.own [.str e, .str c, .str b, .str a]), .r (.val (tv t)), .r (.val (.int g)), .r (.val (.str nm)), .r (.val (.str ot)), .r (.val (tv u)), .r (.val (.int g)), .b false, .r (.val (sub nm (tv u) t)), .r (.val (.bool true)), .r (.val (sub z_other (tv u) t)), .r (.val (.bool true))]) (b_law 2) rfl (b_law_x 2) rfl (by kernel_rfl) (P := CallOK G 2 75 [tv t, sub z_other (tv u) t, .str z_other, tv u] (.val (.bool true)) ∧ CallOK G 2 28 [tv t, .str z_other, tv u] (.val (sub z_other (tv u) t)) ∧ CallOK G 2 75 [tv t, sub nm (tv u) t, .str nm, tv u] (.val (.bool true)) ∧ CallOK G 2 28 [tv t, .str nm, tv u] (.val (sub nm (tv u) t)) ∧ (g / 4 % 8 == 1) = false ∧ ((0 : Int) < 8) ∧ ((0 : Int) < 4 ∧ (4 : Int) < 2 ^ 29) ∧ CA ns 2 g ∧ Pick (.own [tv (.fn ot (.fn nm (.call (.name nm) (.name ot)))), tv (.fn nm (.plus (.name nm) (.num (nbr s)))), tv (.fn ot (.name ot)), tv (.num (nbr s)), tv (.num (nbr s))]) (s % 5) (.val (tv u)) ∧ ((0 : Int) < 5) ∧ (([tv (.fn nm (.plus (.name nm) (.num (nbr s)))), tv (.fn ot (.name ot)), tv (.num (nbr s)), tv (.num (nbr s))] : List V).length < room) ∧ ((10 : Int) = 10 ∧ (0 : Int) < 60 ∧ (60 : Int) ≤ 100) ∧ ((0 : Int) < 2 * (10 : Int) ^ (60 : Int).toNat - 1) ∧ ((2 : Int).natAbs < 2 ^ 62 ∨ ((10 : Int) ^ (60 : Int).toNat).natAbs < 2 ^ 62) ∧ ((10 : Int) = 10 ∧ (0 : Int) < 60 ∧ (60 : Int) ≤ 100) ∧ ((0 : Int) < 20 ∧ (20 : Int) < 2 ^ 29) ∧ Pick (.val (.lst [.str a, .str b, .str c, .str e])) (s / 5 % 4) (.val (.str ot)) ∧ ((0 : Int) < 4) ∧ ((0 : Int) < 5 ∧ (5 : Int) < 2 ^ 29) ∧ Pick (.val (.lst [.str a, .str b, .str c, .str e])) (g % 4) (.val (.str nm)) ∧ ((0 : Int) < 4) ∧ CA ns 2 g ∧ CallOK G 2 61 [.lst (cut (ns.map V.int) (some 8) (some 58)).reverse.reverse, .lst [.str a, .str b, .str c, .str e]] (.val (tv t)) ∧ ((0 : Int) ≤ 8 ∧ (8 : Int) ≤ 1000000) ∧ ((0 : Int) ≤ 58 ∧ (58 : Int) ≤ 1000000) ∧ CallOK G 2 40 [.int (f / 78), .int 4] (.own [.str e, .str c, .str b, .str a]) ∧ ((0 : Int) < 78 ∧ (78 : Int) < 2 ^ 29) ∧ (f / 26 % 3 == 1) = true ∧ ((0 : Int) < 3) ∧ ((0 : Int) < 26 ∧ (26 : Int) < 2 ^ 29) ∧ (CompL G 2 (fi_law.inner s_law_118_17 "_law_k" 12) (e_law_118_17 2).x 12 [some (.val (.lst (ns.map .int))), some (.val (.int f)), some (.val (.int s)), none, none, none, none, none, none, none, none, none, none] [.int 0, .int 1, .int 2, .int 3] [.str m0, .str m1, .str m2, .str m3] ∧ 4 ≤ 1000000) ∧ (4 ≤ 1000000) ∧ CA ns 1 s ∧ CA ns 0 f ∧ True) (by kernel_rfl) ⟨ok_right (d := 0) t u hz, ok_put (d := 0) t hz4, ok_right (d := 0) t u hz, ok_put (d := 0) t hz4, hg8, by decide, by decide, hg, hu, by decide, by show 4 < 1000000; decide, by decide, by decide, .inl (by decide), by decide, by decide, hot, by decide, by decide, hnm, by decide, hg, ht, by decide, by decide, hk, by decide, hf3, by decide, by decide, ⟨hn, by decide⟩, by decide, hs, hf, trivial⟩
theorem lw_nl (ns : List Int) {f s g : Int} {m0 m1 m2 m3 nm ot : List Nat} {t u : Mine.Tree} {t2 : Mine.Tree} {y3 : Option O} (hf : CA ns 0 f) (hs : CA ns 1 s) (hg : CA ns 2 g) (hn : CompL G 2 (fi_law.inner s_law_118_17 "_law_k" 12) (e_law_118_17 2).x 12 [some (.val (.lst (ns.map .int))), some (.val (.int f)), some (.val (.int s)), none, none, none, none, none, none, none, none, none, none] [.int 0, .int 1, .int 2, .int 3] [.str m0, .str m1, .str m2, .str m3]) (hf3 : (f / 26 % 3 == 1) = false) (ht : CallOK G 2 61 [.lst (cut (ns.map V.int) (some 8) (some 58)).reverse.reverse, .lst [.str m0, .str m1, .str m2, .str m3]] (.val (tv t))) (hnm : Pick (.val (.lst [.str m0, .str m1, .str m2, .str m3])) (g % 4) (.val (.str nm))) (hot : Pick (.val (.lst [.str m0, .str m1, .str m2, .str m3])) (s / 5 % 4) (.val (.str ot))) (hu : Pick (.own [tv (.fn ot (.fn nm (.call (.name nm) (.name ot)))), tv (.fn nm (.plus (.name nm) (.num (nbr s)))), tv (.fn ot (.name ot)), tv (.num (nbr s)), tv (.num (nbr s))]) (s % 5) (.val (tv u))) (hg8 : (g / 4 % 8 == 1) = true) (hl : LF 2 (rangeL 0 250) (lst0 (ns.map .int) f s none [.str m0, .str m1, .str m2, .str m3] (tv t) nm ot (some (.val (tv (.num (nbr s))))) (some (.own [tv (.fn ot (.fn nm (.call (.name nm) (.name ot)))), tv (.fn nm (.plus (.name nm) (.num (nbr s)))), tv (.fn ot (.name ot)), tv (.num (nbr s)), tv (.num (nbr s))])) (tv u)) (lst0 (ns.map .int) f s y3 [.str m0, .str m1, .str m2, .str m3] (tv t2) nm ot (some (.val (tv (.num (nbr s))))) (some (.own [tv (.fn ot (.fn nm (.call (.name nm) (.name ot)))), tv (.fn nm (.plus (.name nm) (.num (nbr s)))), tv (.fn ot (.name ot)), tv (.num (nbr s)), tv (.num (nbr s))])) (tv u))) (hz : 4 * (sz t2 + sz u) < room) : CallOK G 3 80 [.lst (ns.map .int)] (.val (.bool true)) :=
  have hz4 : 4 * sz t2 < room := by omega
  call_go (n := 12) (tp := [.r (.val (.int f)), .r (.val (.int s)), .vs [.str m0, .str m1, .str m2, .str m3], .b false, .r (.val (tv t)), .r (.val (.int g)), .r (.val (.str nm)), .r (.val (.str ot)), .r (.val (tv u)), .r (.val (.int g)), .b true, .l .next (lst0 (ns.map .int) f s y3 [.str m0, .str m1, .str m2, .str m3] (tv t2) nm ot (some (.val (tv (.num (nbr s))))) (some (.own [tv (.fn ot (.fn nm (.call (.name nm) (.name ot)))), tv (.fn nm (.plus (.name nm) (.num (nbr s)))), tv (.fn ot (.name ot)), tv (.num (nbr s)), tv (.num (nbr s))])) (tv u)), .r (.val (sub nm (tv u) t2)), .r (.val (.bool true)), .r (.val (sub z_other (tv u) t2)), .r (.val (.bool true))]) (b_law 2) rfl (b_law_x 2) rfl (by kernel_rfl) (P := CallOK G 2 75 [tv t2, sub z_other (tv u) t2, .str z_other, tv u] (.val (.bool true)) ∧ CallOK G 2 28 [tv t2, .str z_other, tv u] (.val (sub z_other (tv u) t2)) ∧ CallOK G 2 75 [tv t2, sub nm (tv u) t2, .str nm, tv u] (.val (.bool true)) ∧ CallOK G 2 28 [tv t2, .str nm, tv u] (.val (sub nm (tv u) t2)) ∧ LF 2 (rangeL 0 250) (lst0 (ns.map .int) f s none [.str m0, .str m1, .str m2, .str m3] (tv t) nm ot (some (.val (tv (.num (nbr s))))) (some (.own [tv (.fn ot (.fn nm (.call (.name nm) (.name ot)))), tv (.fn nm (.plus (.name nm) (.num (nbr s)))), tv (.fn ot (.name ot)), tv (.num (nbr s)), tv (.num (nbr s))])) (tv u)) (lst0 (ns.map .int) f s y3 [.str m0, .str m1, .str m2, .str m3] (tv t2) nm ot (some (.val (tv (.num (nbr s))))) (some (.own [tv (.fn ot (.fn nm (.call (.name nm) (.name ot)))), tv (.fn nm (.plus (.name nm) (.num (nbr s)))), tv (.fn ot (.name ot)), tv (.num (nbr s)), tv (.num (nbr s))])) (tv u)) ∧ (250 : Int).natAbs ≤ 1000000 ∧ (g / 4 % 8 == 1) = true ∧ ((0 : Int) < 8) ∧ ((0 : Int) < 4 ∧ (4 : Int) < 2 ^ 29) ∧ CA ns 2 g ∧ Pick (.own [tv (.fn ot (.fn nm (.call (.name nm) (.name ot)))), tv (.fn nm (.plus (.name nm) (.num (nbr s)))), tv (.fn ot (.name ot)), tv (.num (nbr s)), tv (.num (nbr s))]) (s % 5) (.val (tv u)) ∧ ((0 : Int) < 5) ∧ (([tv (.fn nm (.plus (.name nm) (.num (nbr s)))), tv (.fn ot (.name ot)), tv (.num (nbr s)), tv (.num (nbr s))] : List V).length < room) ∧ ((10 : Int) = 10 ∧ (0 : Int) < 60 ∧ (60 : Int) ≤ 100) ∧ ((0 : Int) < 2 * (10 : Int) ^ (60 : Int).toNat - 1) ∧ ((2 : Int).natAbs < 2 ^ 62 ∨ ((10 : Int) ^ (60 : Int).toNat).natAbs < 2 ^ 62) ∧ ((10 : Int) = 10 ∧ (0 : Int) < 60 ∧ (60 : Int) ≤ 100) ∧ ((0 : Int) < 20 ∧ (20 : Int) < 2 ^ 29) ∧ Pick (.val (.lst [.str m0, .str m1, .str m2, .str m3])) (s / 5 % 4) (.val (.str ot)) ∧ ((0 : Int) < 4) ∧ ((0 : Int) < 5 ∧ (5 : Int) < 2 ^ 29) ∧ Pick (.val (.lst [.str m0, .str m1, .str m2, .str m3])) (g % 4) (.val (.str nm)) ∧ ((0 : Int) < 4) ∧ CA ns 2 g ∧ CallOK G 2 61 [.lst (cut (ns.map V.int) (some 8) (some 58)).reverse.reverse, .lst [.str m0, .str m1, .str m2, .str m3]] (.val (tv t)) ∧ ((0 : Int) ≤ 8 ∧ (8 : Int) ≤ 1000000) ∧ ((0 : Int) ≤ 58 ∧ (58 : Int) ≤ 1000000) ∧ (f / 26 % 3 == 1) = false ∧ ((0 : Int) < 3) ∧ ((0 : Int) < 26 ∧ (26 : Int) < 2 ^ 29) ∧ (CompL G 2 (fi_law.inner s_law_118_17 "_law_k" 12) (e_law_118_17 2).x 12 [some (.val (.lst (ns.map .int))), some (.val (.int f)), some (.val (.int s)), none, none, none, none, none, none, none, none, none, none] [.int 0, .int 1, .int 2, .int 3] [.str m0, .str m1, .str m2, .str m3] ∧ 4 ≤ 1000000) ∧ (4 ≤ 1000000) ∧ CA ns 1 s ∧ CA ns 0 f ∧ True) (by kernel_rfl) ⟨ok_right (d := 0) t2 u hz, ok_put (d := 0) t2 hz4, ok_right (d := 0) t2 u hz, ok_put (d := 0) t2 hz4, hl, by decide, hg8, by decide, by decide, hg, hu, by decide, by show 4 < 1000000; decide, by decide, by decide, .inl (by decide), by decide, by decide, hot, by decide, by decide, hnm, by decide, hg, ht, by decide, by decide, hf3, by decide, by decide, ⟨hn, by decide⟩, by decide, hs, hf, trivial⟩
theorem lw_ns (ns : List Int) {f s g : Int} {m0 m1 m2 m3 nm ot : List Nat} {t u : Mine.Tree} (hf : CA ns 0 f) (hs : CA ns 1 s) (hg : CA ns 2 g) (hn : CompL G 2 (fi_law.inner s_law_118_17 "_law_k" 12) (e_law_118_17 2).x 12 [some (.val (.lst (ns.map .int))), some (.val (.int f)), some (.val (.int s)), none, none, none, none, none, none, none, none, none, none] [.int 0, .int 1, .int 2, .int 3] [.str m0, .str m1, .str m2, .str m3]) (hf3 : (f / 26 % 3 == 1) = false) (ht : CallOK G 2 61 [.lst (cut (ns.map V.int) (some 8) (some 58)).reverse.reverse, .lst [.str m0, .str m1, .str m2, .str m3]] (.val (tv t))) (hnm : Pick (.val (.lst [.str m0, .str m1, .str m2, .str m3])) (g % 4) (.val (.str nm))) (hot : Pick (.val (.lst [.str m0, .str m1, .str m2, .str m3])) (s / 5 % 4) (.val (.str ot))) (hu : Pick (.own [tv (.fn ot (.fn nm (.call (.name nm) (.name ot)))), tv (.fn nm (.plus (.name nm) (.num (nbr s)))), tv (.fn ot (.name ot)), tv (.num (nbr s)), tv (.num (nbr s))]) (s % 5) (.val (tv u))) (hg8 : (g / 4 % 8 == 1) = false) (hz : 4 * (sz t + sz u) < room) : CallOK G 3 80 [.lst (ns.map .int)] (.val (.bool true)) :=
  have hz4 : 4 * sz t < room := by omega
  call_go (n := 12) (tp := [.r (.val (.int f)), .r (.val (.int s)), .vs [.str m0, .str m1, .str m2, .str m3], .b false, .r (.val (tv t)), .r (.val (.int g)), .r (.val (.str nm)), .r (.val (.str ot)), .r (.val (tv u)), .r (.val (.int g)), .b false, .r (.val (sub nm (tv u) t)), .r (.val (.bool true)), .r (.val (sub z_other (tv u) t)), .r (.val (.bool true))]) (b_law 2) rfl (b_law_x 2) rfl (by kernel_rfl) (P := CallOK G 2 75 [tv t, sub z_other (tv u) t, .str z_other, tv u] (.val (.bool true)) ∧ CallOK G 2 28 [tv t, .str z_other, tv u] (.val (sub z_other (tv u) t)) ∧ CallOK G 2 75 [tv t, sub nm (tv u) t, .str nm, tv u] (.val (.bool true)) ∧ CallOK G 2 28 [tv t, .str nm, tv u] (.val (sub nm (tv u) t)) ∧ (g / 4 % 8 == 1) = false ∧ ((0 : Int) < 8) ∧ ((0 : Int) < 4 ∧ (4 : Int) < 2 ^ 29) ∧ CA ns 2 g ∧ Pick (.own [tv (.fn ot (.fn nm (.call (.name nm) (.name ot)))), tv (.fn nm (.plus (.name nm) (.num (nbr s)))), tv (.fn ot (.name ot)), tv (.num (nbr s)), tv (.num (nbr s))]) (s % 5) (.val (tv u)) ∧ ((0 : Int) < 5) ∧ (([tv (.fn nm (.plus (.name nm) (.num (nbr s)))), tv (.fn ot (.name ot)), tv (.num (nbr s)), tv (.num (nbr s))] : List V).length < room) ∧ ((10 : Int) = 10 ∧ (0 : Int) < 60 ∧ (60 : Int) ≤ 100) ∧ ((0 : Int) < 2 * (10 : Int) ^ (60 : Int).toNat - 1) ∧ ((2 : Int).natAbs < 2 ^ 62 ∨ ((10 : Int) ^ (60 : Int).toNat).natAbs < 2 ^ 62) ∧ ((10 : Int) = 10 ∧ (0 : Int) < 60 ∧ (60 : Int) ≤ 100) ∧ ((0 : Int) < 20 ∧ (20 : Int) < 2 ^ 29) ∧ Pick (.val (.lst [.str m0, .str m1, .str m2, .str m3])) (s / 5 % 4) (.val (.str ot)) ∧ ((0 : Int) < 4) ∧ ((0 : Int) < 5 ∧ (5 : Int) < 2 ^ 29) ∧ Pick (.val (.lst [.str m0, .str m1, .str m2, .str m3])) (g % 4) (.val (.str nm)) ∧ ((0 : Int) < 4) ∧ CA ns 2 g ∧ CallOK G 2 61 [.lst (cut (ns.map V.int) (some 8) (some 58)).reverse.reverse, .lst [.str m0, .str m1, .str m2, .str m3]] (.val (tv t)) ∧ ((0 : Int) ≤ 8 ∧ (8 : Int) ≤ 1000000) ∧ ((0 : Int) ≤ 58 ∧ (58 : Int) ≤ 1000000) ∧ (f / 26 % 3 == 1) = false ∧ ((0 : Int) < 3) ∧ ((0 : Int) < 26 ∧ (26 : Int) < 2 ^ 29) ∧ (CompL G 2 (fi_law.inner s_law_118_17 "_law_k" 12) (e_law_118_17 2).x 12 [some (.val (.lst (ns.map .int))), some (.val (.int f)), some (.val (.int s)), none, none, none, none, none, none, none, none, none, none] [.int 0, .int 1, .int 2, .int 3] [.str m0, .str m1, .str m2, .str m3] ∧ 4 ≤ 1000000) ∧ (4 ≤ 1000000) ∧ CA ns 1 s ∧ CA ns 0 f ∧ True) (by kernel_rfl) ⟨ok_right (d := 0) t u hz, ok_put (d := 0) t hz4, ok_right (d := 0) t u hz, ok_put (d := 0) t hz4, hg8, by decide, by decide, hg, hu, by decide, by show 4 < 1000000; decide, by decide, by decide, .inl (by decide), by decide, by decide, hot, by decide, by decide, hnm, by decide, hg, ht, by decide, by decide, hf3, by decide, by decide, ⟨hn, by decide⟩, by decide, hs, hf, trivial⟩
theorem law_tail (ns : List Int) (hlen : ns.length ≤ 63) (f s g : Int) (a b c e : List Nat) : ∃ (t : Mine.Tree) (nm ot : List Nat) (u : Mine.Tree), sz t ≤ 300 ∧ sz u ≤ 10 ∧ CallOK G 2 61 [.lst (cut (ns.map V.int) (some 8) (some 58)).reverse.reverse, .lst [.str a, .str b, .str c, .str e]] (.val (tv t)) ∧ Pick (.val (.lst [.str a, .str b, .str c, .str e])) (g % 4) (.val (.str nm)) ∧ Pick (.val (.lst [.str a, .str b, .str c, .str e])) (s / 5 % 4) (.val (.str ot)) ∧ Pick (.own [tv (.fn ot (.fn nm (.call (.name nm) (.name ot)))), tv (.fn nm (.plus (.name nm) (.num (nbr s)))), tv (.fn ot (.name ot)), tv (.num (nbr s)), tv (.num (nbr s))]) (s % 5) (.val (tv u)) := by
  have e1 : (cut (ns.map V.int) (some 8) (some 58)).reverse.reverse = (((ns.take 58).drop 8).map V.int) := by
    rw [List.reverse_reverse, List.map_drop, List.map_take]; rfl
  obtain ⟨t, h1, h2⟩ := ok_tree (d := 0) a b c e ((ns.take 58).drop 8) (by rw [List.length_drop, List.length_take]; omega)
  obtain ⟨nm, h3⟩ := pick4 a b c e g
  obtain ⟨ot, h4⟩ := pick4 a b c e (s / 5)
  obtain ⟨u, h5, h6⟩ := pick5 (.num (nbr s)) (.num (nbr s)) (.fn ot (.name ot)) (.fn nm (.plus (.name nm) (.num (nbr s)))) (.fn ot (.fn nm (.call (.name nm) (.name ot)))) s
  refine ⟨t, nm, ot, u, h1, ?_, by rw [e1]; exact h2, h3, h4, h6⟩
  rcases h5 with rfl | rfl | rfl | rfl | rfl
  · show 1 ≤ 10; decide
  · show 1 ≤ 10; decide
  · show 1 + 1 ≤ 10; decide
  · show 1 + 1 + 1 + 1 ≤ 10; decide
  · show 1 + 1 + 1 + 1 + 1 ≤ 10; decide
theorem law_ok (ns : List Int) (hlen : ns.length ≤ 63) : CallOK G 3 80 [.lst (ns.map .int)] (.val (.bool true)) := by
  obtain ⟨f, hf⟩ := ok_cell (d := 1) ns 0
  obtain ⟨s, hs⟩ := ok_cell (d := 1) ns 1
  obtain ⟨g, hg⟩ := ok_cell (d := 1) ns 2
  obtain ⟨m0, h0⟩ := ok_name (d := 1) (f - f % 26 + (f + 7 * 0) % 26)
  obtain ⟨m1, h1⟩ := ok_name (d := 1) (f - f % 26 + (f + 7 * 1) % 26)
  obtain ⟨m2, h2⟩ := ok_name (d := 1) (f - f % 26 + (f + 7 * 2) % 26)
  obtain ⟨m3, h3⟩ := ok_name (d := 1) (f - f % 26 + (f + 7 * 3) % 26)
  have hn := lw_names ns f s h0 h1 h2 h3
  cases hf3 : f / 26 % 3 == 1 with
  | true =>
    obtain ⟨a, b, c, e, hk⟩ := ok_kin (d := 1) (f / 78)
    obtain ⟨t, nm, ot, u, z1, z2, ht, hnm, hot, hu⟩ := law_tail ns hlen f s g a b c e
    cases hg8 : g / 4 % 8 == 1 with
    | true =>
      obtain ⟨t2, y3, z3, hl⟩ := lw_for (d := 2) (l := ns.map .int) (f := f) (s := s) (a := a) (b := b) (c := c) (e := e) (nm := nm) (ot := ot) (x8 := some (.val (tv (.num (nbr s))))) (x9 := some (.own [tv (.fn ot (.fn nm (.call (.name nm) (.name ot)))), tv (.fn nm (.plus (.name nm) (.num (nbr s)))), tv (.fn ot (.name ot)), tv (.num (nbr s)), tv (.num (nbr s))])) (u := tv u) 250 0 none t
      exact lw_kl ns hf hs hg hn hf3 hk ht hnm hot hu hg8 hl (by show _ < 1000000; omega)
    | false => exact lw_ks ns hf hs hg hn hf3 hk ht hnm hot hu hg8 (by show _ < 1000000; omega)
  | false =>
    obtain ⟨t, nm, ot, u, z1, z2, ht, hnm, hot, hu⟩ := law_tail ns hlen f s g m0 m1 m2 m3
    cases hg8 : g / 4 % 8 == 1 with
    | true =>
      obtain ⟨t2, y3, z3, hl⟩ := lw_for (d := 2) (l := ns.map .int) (f := f) (s := s) (a := m0) (b := m1) (c := m2) (e := m3) (nm := nm) (ot := ot) (x8 := some (.val (tv (.num (nbr s))))) (x9 := some (.own [tv (.fn ot (.fn nm (.call (.name nm) (.name ot)))), tv (.fn nm (.plus (.name nm) (.num (nbr s)))), tv (.fn ot (.name ot)), tv (.num (nbr s)), tv (.num (nbr s))])) (u := tv u) 250 0 none t
      exact lw_nl ns hf hs hg hn hf3 ht hnm hot hu hg8 hl (by show _ < 1000000; omega)
    | false => exact lw_ns ns hf hs hg hn hf3 ht hnm hot hu hg8 (by show _ < 1000000; omega)
end
end Mine
end

section
open PySem PySem.W PyProof.Rows
set_option Elab.async false
namespace Mine
set_option maxRecDepth 100000 in
set_option maxHeartbeats 8000000 in
open_top hd for PySem.Challenge.rw_uf010023_03
end Mine
end

section
open PySem PySem.W
set_option autoImplicit false
set_option maxRecDepth 100000
namespace Mine.L03
theorem c_top (P : Params) : isTop (Mine.hd.heap_39 P) = true := by kernel_rfl
theorem c_fn (P : Params) : (G.fn.all fun x => nsFind (topOf (Mine.hd.heap_39 P)) x.1 == some (.ref x.2) && keepIn (Mine.hd.heap_39 P) (.ref x.2)) = true := by kernel_rfl
theorem c_bn (P : Params) : (G.bn.all fun x => nsFind (topOf (Mine.hd.heap_39 P)) x == none && x != "__name__") = true := by kernel_rfl
theorem c_isi (P : Params) : (([.none, .bool, .int, .str, .tup, .list] : List Kd).all fun k => G.ty.all fun t => kitOne (Mine.hd.heap_39 P) k.v (.type t.n) == some (isiK k t)) = true := by kernel_rfl
theorem c_fd (P : Params) (a : Addr) (f : FD) (h : (a, f) ∈ G.fd) : FnAt (Mine.hd.heap_39 P) a f := by
  have h : (a, f) ∈ [(21, fd_open_places), (28, fd_put), (35, fd__law_cell_at), (40, fd__law_kin_by), (47, fd__law_name_by), (54, fd__law_joined), (61, fd__law_tree_by), (68, fd__law_leaf), (75, fd__law_put_right), (80, fd_law)] := h
  simp only [List.mem_cons, Prod.mk.injEq, List.not_mem_nil, or_false] at h
  rcases h with ⟨rfl, rfl⟩ | ⟨rfl, rfl⟩ | ⟨rfl, rfl⟩ | ⟨rfl, rfl⟩ | ⟨rfl, rfl⟩ | ⟨rfl, rfl⟩ | ⟨rfl, rfl⟩ | ⟨rfl, rfl⟩ | ⟨rfl, rfl⟩ | ⟨rfl, rfl⟩ <;> exact ⟨by kernel_rfl, by kernel_rfl⟩
theorem c_chk (P : Params) : GChk G (Mine.hd.heap_39 P) := ⟨c_top P, c_fn P, c_bn P, c_isi P, c_fd P⟩
theorem fin : PySem.Challenge.rw_uf010023_03.Holds :=
  Mine.hd (join G 80 3 rfl rfl (by kernel_rfl) (by decide) c_chk law_ok)
end Mine.L03
end
theorem PySem.Challenge.cw_uf010023_03_holds : PySem.Challenge.rw_uf010023_03.Holds :=
  Mine.L03.fin
