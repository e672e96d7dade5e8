import PyProof.Rows.All
import Wide.All
import OpenK.AllK
import KE.KIsAll
import KE.KRevIter
import KE.KSetAt
import KE.KSortTup
import OpenK.KItem
import OpenK.Peek
import PyProof.AutoIntOps
import PyProof.AutoListH
import PyProof.Cells
import PyProof.CompFree
import PyProof.EqLayable
import PyProof.ListCopy
import PyProof.ListIndexNeg
import PyProof.ListOps
import PyProof.ListTruth
import PyProof.NeData
import PyProof.NoPylong
import PyProof.NsCount
import PyProof.P3Eq
import PyProof.P3In
import PyProof.P3Statements
import PyProof.PureInt
import PyProof.Rows.ExtendIn
import PyProof.Rows.RuleIs2
import PyProof.Rows.StrInSeq3
import PyProof.Rows.StrJoin2
import PyProof.Rows.StrTemp
import PyProof.Rows.TupAdd
import PyProof.Rows.TupMore
import PyProof.Rows.TupSub
import PyProof.RulesAssignMore
import PyProof.SliceList
import PyProof.SliceMore
import PyProof.SliceStr
import PyProof.SliceStr2
import PyProof.SliceSyntax
import PyProof.StrBlock2
import PyProof.StrCalls2
import PyProof.StrLawsIn
import PyProof.StrOps
import PyProof.Truth
import PyProof.TupleIter
import PyProof.TupleKey
import PyProof.TupleOfSeq
import PyProof.TupleOps
import PyProof.WalksMore
import Wide.FinOn
import PySem.Challenge.RW_uf010023_01
set_option Elab.async false
section
open PySem
set_option autoImplicit false
set_option linter.unusedVariables false
namespace Mine

abbrev tupO (vs : Array Value) (n : Nat) : Obj := { cls := .type "tuple", data := .seq vs n }
abbrev lstO (vs : Array Value) (n : Nat) : Obj := { cls := .type "list", data := .seq vs n }

set_option genSizeOf false in
set_option genInjectivity false in
inductive V where
  | none
  | bool (b : Bool)
  | int (i : Int)
  | str (s : List Nat)
  | tup (l : List V)
  | lst (l : List V)

set_option genSizeOf false in
set_option genInjectivity false in
inductive O where
  | val (v : V)
  | own (r : List V)
noncomputable def O.frz (o : O) : V := O.rec (fun v => v) (fun r => .lst r.reverse) o
abbrev Loc := List (Option O)
abbrev WS := Addr → Prop

noncomputable def VR (W : WS) (h : Heap) : V → Value → Prop :=
  @V.rec (fun _ => Value → Prop) (fun _ => List Value → Prop)
    (fun v' => v' = .none) (fun b v' => v' = .bool b) (fun i v' => ∃ t, v' = .int i t)
    (fun s v' => ∃ t, v' = .str ⟨s.toArray⟩ t ∧ PyData.strOk ⟨s.toArray⟩ = true ∧ s.length ≤ sizeLine)
    (fun l ih v' => ∃ a vs n, v' = .ref a ∧ W a ∧ h.get? a = some (tupO vs n) ∧ l.length ≤ sizeLine ∧ ih vs.toList)
    (fun l ih v' => ∃ a vs n, v' = .ref a ∧ W a ∧ h.get? a = some (lstO vs n) ∧ l.length ≤ sizeLine ∧ ih vs.toList)
    (fun l' => l' = []) (fun v l iv il l' => ∃ v' r, l' = v' :: r ∧ iv v' ∧ il r)
noncomputable def VRs (W : WS) (h : Heap) : List V → List Value → Prop :=
  @V.rec_1 (fun _ => Value → Prop) (fun _ => List Value → Prop)
    (fun v' => v' = .none) (fun b v' => v' = .bool b) (fun i v' => ∃ t, v' = .int i t)
    (fun s v' => ∃ t, v' = .str ⟨s.toArray⟩ t ∧ PyData.strOk ⟨s.toArray⟩ = true ∧ s.length ≤ sizeLine)
    (fun l ih v' => ∃ a vs n, v' = .ref a ∧ W a ∧ h.get? a = some (tupO vs n) ∧ l.length ≤ sizeLine ∧ ih vs.toList)
    (fun l ih v' => ∃ a vs n, v' = .ref a ∧ W a ∧ h.get? a = some (lstO vs n) ∧ l.length ≤ sizeLine ∧ ih vs.toList)
    (fun l' => l' = []) (fun v l iv il l' => ∃ v' r, l' = v' :: r ∧ iv v' ∧ il r)

structure Ag (W : WS) (h : Heap) (W' : WS) (h' : Heap) : Prop where
  w : ∀ a, W a → W' a
  k : ∀ a, W a → h'.get? a = h.get? a

section
variable {W W' : WS} {h h' : Heap}
theorem VRs.inv {v : V} {l : List V} {l' : List Value} (r : VRs W h (v :: l) l') : ∃ v' r', l' = v' :: r' ∧ VR W h v v' ∧ VRs W h l r' := r
theorem VRs.cons {v : V} {l : List V} {v' : Value} {l' : List Value} (x : VR W h v v') (r : VRs W h l l') : VRs W h (v :: l) (v' :: l') := ⟨v', l', rfl, x, r⟩
theorem VR.tup {l : List V} {v' : Value} (r : VR W h (.tup l) v') : ∃ a vs n, v' = .ref a ∧ W a ∧ h.get? a = some (tupO vs n) ∧ l.length ≤ sizeLine ∧ VRs W h l vs.toList := r
theorem VR.lst {l : List V} {v' : Value} (r : VR W h (.lst l) v') : ∃ a vs n, v' = .ref a ∧ W a ∧ h.get? a = some (lstO vs n) ∧ l.length ≤ sizeLine ∧ VRs W h l vs.toList := r
theorem VR.ag (g : Ag W h W' h') {v : V} {v' : Value} (r : VR W h v v') : VR W' h' v v' :=
  V.rec (motive_1 := fun v => ∀ v', VR W h v v' → VR W' h' v v') (motive_2 := fun l => ∀ l', VRs W h l l' → VRs W' h' l l')
    (fun _ r => r) (fun _ _ r => r) (fun _ _ r => r) (fun _ _ r => r)
    (fun _ ih _ r => let ⟨a, vs, n, e, w, x, y, z⟩ := VR.tup r; ⟨a, vs, n, e, g.w a w, (g.k a w).trans x, y, ih _ z⟩)
    (fun _ ih _ r => let ⟨a, vs, n, e, w, x, y, z⟩ := VR.lst r; ⟨a, vs, n, e, g.w a w, (g.k a w).trans x, y, ih _ z⟩)
    (fun _ r => r) (fun _ _ iv il _ r => let ⟨v', r, e, x, y⟩ := VRs.inv r; ⟨v', r, e, iv _ x, il _ y⟩) v v' r
theorem VRs.ag (g : Ag W h W' h') : ∀ {l : List V} {l' : List Value}, VRs W h l l' → VRs W' h' l l'
  | [], _, r => r
  | _ :: _, _, r => let ⟨v', r, e, x, y⟩ := VRs.inv r; ⟨v', r, e, VR.ag g x, VRs.ag g y⟩
theorem VRs.length : ∀ {l : List V} {l' : List Value}, VRs W h l l' → l'.length = l.length
  | [], _, e => congrArg List.length e
  | _ :: _, _, r => let ⟨v', r, e, x, y⟩ := VRs.inv r; e ▸ congrArg (· + 1) y.length
theorem VRs.size {l : List V} {vs : Array Value} (r : VRs W h l vs.toList) : vs.size = l.length := by rw [← r.length, Array.length_toList]
theorem VRs.append : ∀ {l m : List V} {l' m' : List Value}, VRs W h l l' → VRs W h m m' → VRs W h (l ++ m) (l' ++ m')
  | [], _, _, _, e, hm => by cases e; exact hm
  | _ :: _, _, _, _, r, hm => by obtain ⟨v', r, rfl, x, y⟩ := VRs.inv r; exact .cons x (y.append hm)
theorem VRs.snoc {l : List V} {l' : List Value} {v : V} {v' : Value} (r : VRs W h l l') (x : VR W h v v') : VRs W h (l ++ [v]) (l' ++ [v']) := r.append ⟨v', [], rfl, x, rfl⟩
theorem VRs.get : ∀ {l : List V} {l' : List Value}, VRs W h l l' → ∀ {i : Nat} {v : V}, l[i]? = some v → ∃ v', l'[i]? = some v' ∧ VR W h v v'
  | [], _, _, _, _, e => nomatch e
  | _ :: _, _, r, 0, _, e => by obtain ⟨v', r, rfl, x, y⟩ := VRs.inv r; cases e; exact ⟨_, rfl, x⟩
  | _ :: _, _, r, i + 1, _, e => by obtain ⟨v', r, rfl, x, y⟩ := VRs.inv r; exact y.get (i := i) e
theorem VRs.set : ∀ {l : List V} {l' : List Value}, VRs W h l l' → ∀ (i : Nat) {v : V} {v' : Value}, VR W h v v' → VRs W h (l.set i v) (l'.set i v')
  | [], _, e, _, _, _, _ => by cases e; exact rfl
  | _ :: _, _, r, 0, _, w, hw => by obtain ⟨v', r, rfl, x, y⟩ := VRs.inv r; exact .cons hw y
  | _ :: _, _, r, i + 1, _, w, hw => by obtain ⟨v', r, rfl, x, y⟩ := VRs.inv r; exact .cons x (y.set i hw)
theorem VRs.take : ∀ {l : List V} {l' : List Value}, VRs W h l l' → ∀ (i : Nat), VRs W h (l.take i) (l'.take i)
  | [], _, e, i => by cases e; rw [List.take_nil, List.take_nil]; exact rfl
  | _ :: _, _, _, 0 => rfl
  | _ :: _, _, r, i + 1 => by obtain ⟨v', r, rfl, x, y⟩ := VRs.inv r; exact .cons x (y.take i)
theorem VRs.drop : ∀ {l : List V} {l' : List Value}, VRs W h l l' → ∀ (i : Nat), VRs W h (l.drop i) (l'.drop i)
  | [], _, e, i => by cases e; rw [List.drop_nil, List.drop_nil]; exact rfl
  | _ :: _, _, r, 0 => r
  | _ :: _, _, r, i + 1 => by obtain ⟨v', r, rfl, x, y⟩ := VRs.inv r; exact y.drop i
end

theorem Ag.refl (W : WS) (h : Heap) : Ag W h W h := ⟨fun _ x => x, fun _ _ => rfl⟩
theorem Ag.trans {W W' W'' : WS} {h h' h'' : Heap} (x : Ag W h W' h') (y : Ag W' h' W'' h'') : Ag W h W'' h'' := ⟨fun a q => y.w a (x.w a q), fun a q => (y.k a (x.w a q)).trans (x.k a q)⟩

abbrev Tbl := List (Str × Nat)
structure FI where
  names : List (Str × NameKind)
  tbl : Tbl

structure Cx where
  K : PySem.W.Frag
  h : Heap
  os : OsState
  prog : Program
  w : World
  mg : Str → Option Value
  mb : Str → Option Value
noncomputable abbrev Cx.M (C : Cx) : Model := model C.prog C.w

structure FC where
  C : Cx
  A : Around
  env : Env
  fi : FI
  pin : Addr → Option Obj
  W0 : WS
  cm : Bool

def Mut (X : FC) (φ : Nat → List Addr) (a : Addr) : Prop := a = X.env.locals ∨ (X.cm = true ∧ ∃ x, X.env.cells.lookup x = some a) ∨ ∃ i, a ∈ φ i

def Val (env : Env) (h : Heap) (x : Str) (v : Value) : Prop :=
  (env.kindOf x = some .local ∧ ∃ m, h.Ns env.locals m ∧ m x = some v) ∨
  ((env.kindOf x = some .cell ∨ env.kindOf x = some .free) ∧ ∃ c, env.cells.lookup x = some c ∧ h.IsCell c (some v))

def OwnAt (W : WS) (h : Heap) (a : Addr) (r : List V) : Prop := ∃ vs n, h.get? a = some (lstO vs n) ∧ VRs W h r.reverse vs.toList ∧ r.length ≤ sizeLine
noncomputable def OR (W : WS) (h : Heap) (p : List Addr) (o : O) (v' : Value) : Prop :=
  O.rec (fun v => p = [] ∧ VR W h v v') (fun r => ∃ a, p = [a] ∧ v' = .ref a ∧ OwnAt W h a r) o

structure F0 (X : FC) (W : WS) (φ : Nat → List Addr) (h : Heap) : Prop where
  pin : ∀ a o, X.pin a = some o → h.get? a = some o
  mu : ∀ a, Mut X φ a → X.pin a = none ∧ ¬ W a
  wf : ∀ a, W a → ∃ o, h.get? a = some o
  w0 : ∀ a o, X.pin a = some o → W a → X.W0 a
  dis : ∀ i j a, a ∈ φ i → a ∈ φ j → i = j
  ns : ∃ o es ep, h.get? X.env.locals = some o ∧ o.data = .dict es ep ∧ StrKeys es
  cells : ∀ x c, X.env.cells.lookup x = some c → ∃ o v, h.get? c = some o ∧ o.data = .cell v
def LR (X : FC) (W : WS) (φ : Nat → List Addr) (h : Heap) (ρ : Loc) : Prop :=
  ∀ x i, X.fi.tbl.lookup x = some i → ∀ o, ρ[i]? = some (some o) → X.env.kindOf x ≠ none → ∃ v', Val X.env h x v' ∧ OR W h (φ i) o v'
structure At (X : FC) (W : WS) (φ : Nat → List Addr) (s : Shared) (ρ : Loc) : Prop where
  gens : s.gens = #[]
  os : s.os = X.C.os
  f : F0 X W φ s.heap
  lr : LR X W φ s.heap ρ
  ow : ∀ i a, a ∈ φ i → ∃ vs n, s.heap.get? a = some (lstO vs n)

structure Grow (W : WS) (h : Heap) (W' : WS) (h' : Heap) : Prop where
  k : ∀ a o, h.get? a = some o → h'.get? a = some o
  w : ∀ a, W a → W' a
  wf : ∀ a, W' a → ∃ o, h'.get? a = some o
  nw : ∀ a o, h.get? a = some o → W' a → W a

section
variable {X : FC} {W W' W'' : WS} {φ : Nat → List Addr} {h h' h'' : Heap} {s : Shared} {ρ : Loc}
theorem Grow.ag (g : Grow W h W' h') (wf : ∀ a, W a → ∃ o, h.get? a = some o) : Ag W h W' h' :=
  ⟨g.w, fun a q => (wf a q).elim fun o e => (g.k a o e).trans e.symm⟩
theorem Grow.trans (g : Grow W h W' h') (g' : Grow W' h' W'' h'') : Grow W h W'' h'' :=
  ⟨fun a o e => g'.k a o (g.k a o e), fun a q => g'.w a (g.w a q), g'.wf, fun a o e q => g.nw a o e (g'.nw a o (g.k a o e) q)⟩
theorem Val.grow {env : Env} {x : Str} {v : Value} (k : ∀ a o, h.get? a = some o → h'.get? a = some o) (r : Val env h x v) : Val env h' x v := by
  obtain ⟨q, m, ⟨o, es, ep, e, z⟩, hm⟩ | ⟨q, c, hc, o, e, z⟩ := r
  · exact .inl ⟨q, m, ⟨o, es, ep, k _ _ e, z⟩, hm⟩
  · exact .inr ⟨q, c, hc, o, k _ _ e, z⟩
theorem OwnAt.ag {a : Addr} {r : List V} (g : Ag W h W' h') (e : h'.get? a = h.get? a) (x : OwnAt W h a r) : OwnAt W' h' a r := by
  obtain ⟨vs, n, y, z, t⟩ := x; exact ⟨vs, n, e.trans y, z.ag g, t⟩
theorem OR.ag {p : List Addr} {o : O} {v' : Value} (g : Ag W h W' h') (e : ∀ a, a ∈ p → h'.get? a = h.get? a) (x : OR W h p o v') : OR W' h' p o v' := by
  cases o with
  | val v => exact ⟨x.1, VR.ag g x.2⟩
  | own r => obtain ⟨a, rfl, y, z⟩ := x; exact ⟨a, rfl, y, OwnAt.ag g (e a List.mem_cons_self) z⟩
theorem F0.grow (F : F0 X W φ h) (ow : ∀ i a, a ∈ φ i → ∃ vs n, h.get? a = some (lstO vs n)) (g : Grow W h W' h') : F0 X W' φ h' where
  pin := fun a o e => g.k a o (F.pin a o e)
  mu := fun a q => ⟨(F.mu a q).1, fun w => (F.mu a q).2 (by
      rcases q with q | ⟨q1, x, q⟩ | ⟨i, q⟩
      · obtain ⟨o, _, _, e, _⟩ := F.ns; exact g.nw a o (q ▸ e) w
      · obtain ⟨o, _, e, _⟩ := F.cells x a q; exact g.nw a o e w
      · obtain ⟨_, _, e⟩ := ow i a q; exact g.nw a _ e w)⟩
  wf := g.wf
  w0 := fun a o e q => F.w0 a o e (g.nw a o (F.pin a o e) q)
  dis := F.dis
  ns := by obtain ⟨o, es, ep, e, z⟩ := F.ns; exact ⟨o, es, ep, g.k _ _ e, z⟩
  cells := fun x c hc => by obtain ⟨o, v, e, z⟩ := F.cells x c hc; exact ⟨o, v, g.k _ _ e, z⟩
theorem At.grow (F : At X W φ s ρ) {t : Nat} (g : Grow W s.heap W' h') : At X W' φ { s with heap := h', toks := t } ρ where
  gens := F.gens
  os := F.os
  f := F.f.grow F.ow g
  lr := fun x i hx o ho hk => by
    obtain ⟨v', a, b⟩ := F.lr x i hx o ho hk
    exact ⟨v', a.grow g.k, b.ag (g.ag F.f.wf) fun a q => by obtain ⟨_, _, e⟩ := F.ow i a q; exact (g.k a _ e).trans e.symm⟩
  ow := fun i a q => by obtain ⟨vs, n, e⟩ := F.ow i a q; exact ⟨vs, n, g.k _ _ e⟩
theorem At.toks (F : At X W φ s ρ) (t : Nat) : At X W φ { s with toks := t } ρ := ⟨F.gens, F.os, F.f, F.lr, F.ow⟩

theorem F0.turn (F : F0 X W φ h) {a : Addr} (hm : Mut X φ a) (hs : Heap.SameBut a h h') : Ag W h W h' ∧ (∀ b o, X.pin b = some o → h'.get? b = some o) ∧ (∀ b, W b → ∃ o, h'.get? b = some o) := by
  have hk : ∀ b, b ≠ a → h'.get? b = h.get? b := hs.2
  have wa := (F.mu a hm).2
  have ag : Ag W h W h' := ⟨fun _ q => q, fun b q => hk b fun e => wa (e ▸ q)⟩
  refine ⟨ag, fun b o e => (hk b fun q => ?_).trans (F.pin b o e), fun b q => ?_⟩
  · have := (F.mu a hm).1; rw [← q, e] at this; cases this
  · obtain ⟨o, e⟩ := F.wf b q; exact ⟨o, (ag.k b q).trans e⟩
end
end Mine
end

section
open PySem
set_option autoImplicit false
set_option linter.unusedVariables false
namespace Mine

def RO (X : FC) (W : WS) (φ : Nat → List Addr) (h : Heap) (o : O) (v' : Value) : Prop := ∃ p, OR W h p o v' ∧ ∀ a, a ∈ p → ¬ W a ∧ ¬ Mut X φ a ∧ X.pin a = none

def upd (φ : Nat → List Addr) (i : Nat) (p : List Addr) : Nat → List Addr := fun j => if j = i then p else φ j
theorem upd_same (φ : Nat → List Addr) (i : Nat) (p : List Addr) : upd φ i p i = p := if_pos rfl
theorem upd_ne (φ : Nat → List Addr) {i j : Nat} (p : List Addr) (h : j ≠ i) : upd φ i p j = φ j := if_neg h

theorem set_get {ρ : Loc} {i j : Nat} {o o' : O} (e : (ρ.set i (some o))[j]? = some (some o')) : (j = i ∧ o' = o) ∨ (j ≠ i ∧ ρ[j]? = some (some o')) := by
  by_cases q : j = i
  · subst q
    rw [List.getElem?_set] at e
    split at e
    · split at e
      · cases e; exact .inl ⟨rfl, rfl⟩
      · cases e
    · rename_i q; exact absurd rfl q
  · exact .inr ⟨q, by rwa [List.getElem?_set_ne (Ne.symm q)] at e⟩

section
variable {X : FC} {W W' : WS} {φ : Nat → List Addr} {h h' : Heap} {s : Shared} {ρ : Loc}

theorem RO.val {v : V} {v' : Value} (r : VR W h v v') : RO X W φ h (.val v) v' := ⟨[], ⟨rfl, r⟩, fun _ q => nomatch q⟩
theorem Ag.more (W : WS) (h : Heap) (a : Addr) : Ag W h (fun b => W b ∨ b = a) h := ⟨fun _ q => .inl q, fun _ _ => rfl⟩
theorem OwnAt.frz {a : Addr} {r : List V} (x : OwnAt W h a r) : VR (fun b => W b ∨ b = a) h (.lst r.reverse) (.ref a) := by
  obtain ⟨vs, n, y, z, t⟩ := x; exact ⟨a, vs, n, rfl, .inr rfl, y, by rwa [List.length_reverse], VRs.ag (.more W h a) z⟩
theorem At.fix (F : At X W φ s ρ) {a : Addr} (hp : X.pin a = none) (hm : ¬ Mut X φ a) (he : ∃ o, s.heap.get? a = some o) : At X (fun b => W b ∨ b = a) φ s ρ where
  gens := F.gens
  os := F.os
  f := { F.f with
    mu := fun b q => ⟨(F.f.mu b q).1, fun w => w.elim (F.f.mu b q).2 fun e => hm (e ▸ q)⟩
    wf := fun b q => q.elim (F.f.wf b) fun e => e ▸ he
    w0 := fun b o e q => q.elim (F.f.w0 b o e) fun z => by rw [z, hp] at e; cases e }
  lr := fun x i hx o ho hk => by obtain ⟨v', a, b⟩ := F.lr x i hx o ho hk; exact ⟨v', a, b.ag (.more ..) fun _ _ => rfl⟩
  ow := F.ow
theorem At.frz (F : At X W φ s ρ) {o : O} {v' : Value} (r : RO X W φ s.heap o v') : ∃ W', At X W' φ s ρ ∧ Ag W s.heap W' s.heap ∧ VR W' s.heap o.frz v' := by
  obtain ⟨p, x, y⟩ := r
  cases o with
  | val v => exact ⟨W, F, .refl .., x.2⟩
  | own r =>
    obtain ⟨a, rfl, rfl, z⟩ := x
    obtain ⟨_, hm, hp⟩ := y a List.mem_cons_self
    refine ⟨_, F.fix hp hm ?_, .more W s.heap a, z.frz⟩
    obtain ⟨vs, n, e, _⟩ := z; exact ⟨_, e⟩
theorem Mut.less {i : Nat} {a : Addr} (q : Mut X (upd φ i []) a) : Mut X φ a := by
  rcases q with q | q | ⟨j, q⟩
  · exact .inl q
  · exact .inr (.inl q)
  · refine .inr (.inr ⟨j, ?_⟩)
    unfold upd at q; split at q
    · cases q
    · exact q
theorem At.drop (F : At X W φ s ρ) (i : Nat) {ρ' : Loc} (hρ : ∀ j o, j ≠ i → ρ'[j]? = some (some o) → ρ[j]? = some (some o)) (hi : ∀ x, X.fi.tbl.lookup x = some i → ∀ o, ρ'[i]? = some (some o) → X.env.kindOf x ≠ none → ∃ v', Val X.env s.heap x v' ∧ OR W s.heap [] o v') : At X W (upd φ i []) s ρ' where
  gens := F.gens
  os := F.os
  f := { F.f with
    mu := fun b q => F.f.mu b q.less
    dis := fun j k a p q => by
      by_cases ej : j = i
      · rw [ej, upd_same] at p; cases p
      · by_cases ek : k = i
        · rw [ek, upd_same] at q; cases q
        · rw [upd_ne _ _ ej] at p; rw [upd_ne _ _ ek] at q; exact F.f.dis j k a p q }
  lr := fun x j hx o ho hk => by
    by_cases ej : j = i
    · subst ej; rw [upd_same]; exact hi x hx o ho hk
    · rw [upd_ne _ _ ej]; exact F.lr x j hx o (hρ j o ej ho) hk
  ow := fun j a q => by
    by_cases ej : j = i
    · rw [ej, upd_same] at q; cases q
    · rw [upd_ne _ _ ej] at q; exact F.ow j a q

theorem F0.notOwn (F : F0 X W φ h) {a : Addr} {vs : Array Value} {n : Nat} (e : h.get? a = some (lstO vs n)) : a ≠ X.env.locals ∧ ∀ x, X.env.cells.lookup x ≠ some a := by
  refine ⟨fun q => ?_, fun x q => ?_⟩
  · obtain ⟨o, _, _, z, t, _⟩ := F.ns; rw [← q, e] at z; cases z; cases t
  · obtain ⟨o, _, z, t⟩ := F.cells x a q; rw [e] at z; cases z; cases t

theorem At.frzVar (F : At X W φ s ρ) {x : Str} {i : Nat} {r : List V} {v' : Value} (ti : ∀ y, X.fi.tbl.lookup y = some i → y = x) (hv : Val X.env s.heap x v') (z : OR W s.heap (φ i) (.own r) v') :
    ∃ W', At X W' (upd φ i []) s (ρ.set i (some (.val (.lst r.reverse)))) ∧ Ag W s.heap W' s.heap ∧ VR W' s.heap (.lst r.reverse) v' := by
  obtain ⟨a, hp, rfl, z⟩ := z
  have hmem : a ∈ φ i := hp ▸ List.mem_cons_self
  have hmu := F.f.mu a (.inr (.inr ⟨i, hmem⟩))
  obtain ⟨vs, n, he, _⟩ := id z
  have hno := F.f.notOwn he
  have F1 : At X W (upd φ i []) s (ρ.set i none) := F.drop i (fun j o q w => by rwa [List.getElem?_set_ne (Ne.symm q)] at w) fun y hy o w => by
    rw [List.getElem?_set] at w
    split at w
    · split at w <;> cases w
    · rename_i q; exact absurd rfl q
  have F2 := F1.fix hmu.1 (fun q => by
    rcases q with q | ⟨_, y, q⟩ | ⟨j, q⟩
    · exact hno.1 q
    · exact hno.2 y q
    · by_cases ej : j = i
      · rw [ej, upd_same] at q; cases q
      · rw [upd_ne _ _ ej] at q; exact ej (F.f.dis j i a q hmem)) ⟨_, he⟩
  refine ⟨_, ⟨F2.gens, F2.os, F2.f, fun y j hy o w hk => ?_, F2.ow⟩, .more W s.heap a, z.frz⟩
  rcases set_get w with ⟨rfl, rfl⟩ | ⟨q, w⟩
  · cases ti y hy; exact ⟨_, hv, by rw [upd_same]; exact ⟨rfl, z.frz⟩⟩
  · exact F2.lr y j hy o (by rwa [List.getElem?_set_ne (Ne.symm q)]) hk

theorem At.store (F : At X W φ s ρ) {x : Str} {i : Nat} {o : O} {v' : Value} {a : Addr} {t : Nat} (ti : ∀ y, X.fi.tbl.lookup y = some i → y = x) (hx : X.fi.tbl.lookup x = some i) {p : List Addr} (r : OR W s.heap p o v') (hp : ∀ a, a ∈ p → ¬ W a ∧ ¬ Mut X φ a ∧ X.pin a = none)
    (ha : a = X.env.locals ∨ (X.cm = true ∧ ∃ y, X.env.cells.lookup y = some a)) (hs : Heap.SameBut a s.heap h') (hv : Val X.env h' x v') (ho : ∀ y w, y ≠ x → Val X.env s.heap y w → Val X.env h' y w)
    (ns : ∃ o es ep, h'.get? X.env.locals = some o ∧ o.data = .dict es ep ∧ StrKeys es) (cells : ∀ x c, X.env.cells.lookup x = some c → ∃ o v, h'.get? c = some o ∧ o.data = .cell v) :
    At X W (upd φ i p) { s with heap := h', toks := t } (ρ.set i (some o)) ∧ Ag W s.heap W h' := by
  have hm : Mut X φ a := ha.elim .inl fun q => .inr (.inl q)
  obtain ⟨ag, pin, wf⟩ := F.f.turn hm hs
  have hl : ∀ b vs n, s.heap.get? b = some (lstO vs n) → h'.get? b = s.heap.get? b := fun b vs n e => hs.2 b fun q => by
    have := F.f.notOwn e
    rcases ha with z | ⟨_, y, z⟩
    · exact this.1 (q.trans z)
    · exact this.2 y (q ▸ z)
  have hl' : ∀ b, b ∈ p → ∃ vs n, s.heap.get? b = some (lstO vs n) := fun b q => by
    cases o with
    | val v => rw [r.1] at q; cases q
    | own r' => obtain ⟨c, rfl, _, vs, n, z, _⟩ := r; cases List.mem_singleton.mp q; exact ⟨vs, n, z⟩
  have case : ∀ j b, b ∈ upd φ i p j → (j = i ∧ b ∈ p) ∨ (j ≠ i ∧ b ∈ φ j) := fun j b q => by
    by_cases ej : j = i
    · rw [ej, upd_same] at q; exact .inl ⟨ej, q⟩
    · rw [upd_ne _ _ ej] at q; exact .inr ⟨ej, q⟩
  have ow : ∀ j b, b ∈ upd φ i p j → ∃ vs n, s.heap.get? b = some (lstO vs n) := fun j b q => (case j b q).elim (fun z => hl' b z.2) fun z => F.ow j b z.2
  refine ⟨⟨F.gens, F.os, ⟨pin, fun b q => ?_, wf, F.f.w0, fun j k b q q' => ?_, ns, cells⟩, fun y j hy o' w hk => ?_, fun j b q => ?_⟩, ag⟩
  · rcases q with q | q | ⟨j, q⟩
    · exact F.f.mu b (.inl q)
    · exact F.f.mu b (.inr (.inl q))
    · rcases case j b q with ⟨_, q⟩ | ⟨_, q⟩
      · exact ⟨(hp b q).2.2, (hp b q).1⟩
      · exact F.f.mu b (.inr (.inr ⟨j, q⟩))
  · rcases case j b q with ⟨e, q⟩ | ⟨e, q⟩ <;> rcases case k b q' with ⟨e', q'⟩ | ⟨e', q'⟩
    · exact e.trans e'.symm
    · exact absurd (.inr (.inr ⟨k, q'⟩)) (hp b q).2.1
    · exact absurd (.inr (.inr ⟨j, q⟩)) (hp b q').2.1
    · exact F.f.dis j k b q q'
  · rcases set_get w with ⟨rfl, rfl⟩ | ⟨q, w⟩
    · cases ti y hy
      refine ⟨v', hv, ?_⟩
      rw [upd_same]
      exact r.ag ag fun b q => by obtain ⟨_, _, e⟩ := hl' b q; exact hl b _ _ e
    · obtain ⟨w', b1, b2⟩ := F.lr y j hy o' w hk
      refine ⟨w', ho y w' (fun e => q ?_) b1, ?_⟩
      · rw [e, hx] at hy; exact (Option.some.inj hy).symm
      · rw [upd_ne _ _ q]
        exact b2.ag ag fun b z => by obtain ⟨_, _, e⟩ := F.ow j b z; exact hl b _ _ e
  · obtain ⟨vs, n, e⟩ := ow j b q; exact ⟨vs, n, (hl b vs n e).trans e⟩

theorem At.turn (F : At X W φ s ρ) {x : Str} {i : Nat} {a : Addr} {t : Nat} {r : List V} {vs : Array Value} {n : Nat} (ti : ∀ y, X.fi.tbl.lookup y = some i → y = x) (hi : φ i = [a]) (hs : Heap.SameBut a s.heap h') (hv : Val X.env s.heap x (.ref a))
    (he : h'.get? a = some (lstO vs n)) (hr : VRs W s.heap r.reverse vs.toList) (hz : r.length ≤ sizeLine) : At X W φ { s with heap := h', toks := t } (ρ.set i (some (.own r))) ∧ Ag W s.heap W h' := by
  have hmem : a ∈ φ i := hi ▸ List.mem_cons_self
  obtain ⟨ag, pin, wf⟩ := F.f.turn (.inr (.inr ⟨i, hmem⟩)) hs
  obtain ⟨vs0, n0, he0⟩ := F.ow i a hmem
  have hno := F.f.notOwn he0
  have hL : h'.get? X.env.locals = s.heap.get? X.env.locals := hs.2 _ (Ne.symm hno.1)
  have hC : ∀ y c, X.env.cells.lookup y = some c → h'.get? c = s.heap.get? c := fun y c q => hs.2 c fun e => hno.2 y (e ▸ q)
  have val : ∀ y w, Val X.env s.heap y w → Val X.env h' y w := fun y w q => by
    obtain ⟨q, m, ⟨o, es, ep, e, z⟩, hm⟩ | ⟨q, c, hc, o, e, z⟩ := q
    · exact .inl ⟨q, m, ⟨o, es, ep, hL.trans e, z⟩, hm⟩
    · exact .inr ⟨q, c, hc, o, (hC y c hc).trans e, z⟩
  refine ⟨⟨F.gens, F.os, { F.f with pin := pin, wf := wf, ns := ?_, cells := fun y c q => ?_ }, fun y j hy o w hk => ?_, fun j b q => ?_⟩, ag⟩
  · obtain ⟨o, es, ep, e, z⟩ := F.f.ns; exact ⟨o, es, ep, hL.trans e, z⟩
  · obtain ⟨o, v, e, z⟩ := F.f.cells y c q; exact ⟨o, v, (hC y c q).trans e, z⟩
  · rcases set_get w with ⟨rfl, rfl⟩ | ⟨q, w⟩
    · cases ti y hy
      exact ⟨_, val _ _ hv, a, hi, rfl, vs, n, he, hr.ag ag, hz⟩
    · obtain ⟨w', b1, b2⟩ := F.lr y j hy o w hk
      exact ⟨w', val _ _ b1, b2.ag ag fun b z => hs.2 b fun e => q (F.f.dis j i a (e ▸ z) hmem)⟩
  · by_cases e : b = a
    · subst e; exact ⟨vs, n, he⟩
    · obtain ⟨vs, n, z⟩ := F.ow j b q; exact ⟨vs, n, (hs.2 b e).trans z⟩
end
end Mine
end

section
open PySem
set_option autoImplicit false
set_option linter.unusedVariables false
namespace Mine
open PySem.W (Frag kitOne keepIn Looks)

inductive Ty | tuple | str | int | bool | list deriving DecidableEq
inductive Kd | none | bool | int | str | tup | list deriving DecidableEq
noncomputable def Kd.v (k : Kd) : Value := .type (Kd.rec "NoneType" "bool" "int" "str" "tuple" "list" k)
noncomputable def Ty.n (t : Ty) : String := Ty.rec "tuple" "str" "int" "bool" "list" t
noncomputable def isiK (k : Kd) (t : Ty) : Bool := Kd.rec false (Ty.rec false false true true false t) (Ty.rec false false true false false t) (Ty.rec false true false false false t) (Ty.rec true false false false false t) (Ty.rec false false false false true t) k

structure FD where
  ps : List Str
  fi : FI
  st : List Stmt
structure Gl where
  fn : List (Str × Addr)
  fd : List (Addr × FD)
  bn : List Str
  ty : List Ty

def deep : Nat := 2000
structure FnOk (C : Cx) (a : Addr) (f : FD) (o : Obj) (fd : FuncData) : Prop where
  at_ : C.h.get? a = some o
  dat : o.data = .func fd
  body : fd.body = .stmts f.st
  clo : fd.closure = []
  gl : fd.globals = mainGlobals
  bi : fd.builtins = builtinsNs
  co : fd.scope.isCoroutine = false
  gen : fd.scope.isGenerator = false
  kind : fd.scope.kind = .function
  rec_ : C.h.CodeRec fd.code fd.qualname
  bind : ∀ vals : List Value, vals.length = f.ps.length → bindArgs fd ⟨vals, []⟩ = pure (f.ps.zip vals)
  nodup : f.ps.Nodup
  names : fd.scope.names = f.fi.names
  own : ∀ p, p ∈ f.ps → f.fi.names.lookup p = some .local ∨ f.fi.names.lookup p = some .cell
  free : ∀ x, x ∈ f.fi.names → x.2 ≠ .free
  at0 : ∀ i p, f.ps[i]? = some p → f.fi.tbl.lookup p = some i
  inj : ∀ y z j, f.fi.tbl.lookup y = some j → f.fi.tbl.lookup z = some j → y = z

structure GOk (G : Gl) (C : Cx) : Prop where
  X : C.K.In C.h
  g : C.h.Ns mainGlobals C.mg
  b : C.h.Ns builtinsNs C.mb
  bi : ∀ x : Str, x ≠ "__name__" → C.mb x = bootBuiltins x
  nolimit : C.h.NoLimit
  isi : ∀ k t, t ∈ G.ty → kitOne C.K k.v (.type t.n) = some (isiK k t)
  bn : ∀ x, x ∈ G.bn → C.mg x = none ∧ x ≠ "__name__"
  fn : ∀ x a, G.fn.lookup x = some a → C.mg x = some (.ref a) ∧ keepIn C.K (.ref a) = true
  fd : ∀ a f, G.fd.lookup a = some f → ∃ o fd, FnOk C a f o fd

structure FS (G : Gl) (d : Nat) (X : FC) : Prop where
  g : GOk G X.C
  base : ∀ a o, X.C.h.get? a = some o → X.pin a = some o
  hd : X.A.handled = none
  dp : X.A.depth + 2 * d + 10 ≤ recursionLimit
  un : X.A.units + 20 * d + deep + 100 < cLine
  fn : X.env.scope.kind = .function
  gl : X.env.globals = mainGlobals
  bi : X.env.builtins = builtinsNs
  nm : X.env.scope.names = X.fi.names
  cel : ∀ x, X.fi.names.lookup x = some .cell ∨ X.fi.names.lookup x = some .free → ∃ c, X.env.cells.lookup x = some c
  inj : ∀ x y c, X.env.cells.lookup x = some c → X.env.cells.lookup y = some c → x = y
  ti : ∀ y z j, X.fi.tbl.lookup y = some j → X.fi.tbl.lookup z = some j → y = z

def FI.isVar (fi : FI) (x : Str) (i : Nat) : Bool := fi.tbl.lookup x == some i && (fi.names.lookup x == some .local || fi.names.lookup x == some .cell || fi.names.lookup x == some .free) && x != "__debug__" && x != "__classdict__"
def FI.isOwn (fi : FI) (x : Str) (i : Nat) : Bool := fi.tbl.lookup x == some i && (fi.names.lookup x == some .local || fi.names.lookup x == some .cell)
def FI.isGlob (fi : FI) (x : Str) : Bool := fi.names.lookup x == some .globalImplicit && x != "__debug__"
def isBi (G : Gl) (fi : FI) (x : Str) : Bool := fi.isGlob x && G.bn.contains x

section
variable {G : Gl} {d : Nat} {X : FC} {W : WS} {φ : Nat → List Addr} {s : Shared} {ρ : Loc} {E : Value → Shared → Prop}

theorem FS.kind (S : FS G d X) (x : Str) : X.env.kindOf x = X.fi.names.lookup x := by unfold Env.kindOf; rw [S.nm]
theorem At.keep (F : At X W φ s ρ) (S : FS G d X) : ∀ a o, X.C.h.get? a = some o → s.heap.get? a = some o := fun a o e => F.f.pin a o (S.base a o e)
theorem At.In (F : At X W φ s ρ) (S : FS G d X) : X.C.K.In s.heap := S.g.X.keeps (F.keep S)

theorem load_ok {x : Str} {i : Nat} {p : Pos} {o : O} {Q : Value → Shared → Prop} (S : FS G d X) (F : At X W φ s ρ) (hx : X.fi.isVar x i = true) (e : ρ[i]? = some (some o))
    (h : ∀ v', X.fi.tbl.lookup x = some i → X.env.kindOf x ≠ none → Val X.env s.heap x v' → OR W s.heap (φ i) o v' → Q v' s) : wpAny X.C.M X.A (eval (.Name x p) X.env) Q E s := by
  simp only [FI.isVar, Bool.and_eq_true, beq_iff_eq, bne_iff_ne, ne_eq, Bool.or_eq_true] at hx
  obtain ⟨⟨⟨h1, h2⟩, h3⟩, h4⟩ := hx
  have hk : X.env.kindOf x ≠ none := by rw [S.kind]; rintro q; rcases h2 with (z | z) | z <;> rw [q] at z <;> cases z
  obtain ⟨v', a, b⟩ := F.lr x i h1 o e hk
  refine wpAny_Name ?_ (by simpa using h3)
  have fin := h v' h1 hk a b
  rcases a with ⟨hk, m, hn, hm⟩ | ⟨hk | hk, c, hc, hv⟩
  · exact wpAny_loadName_local S.fn hk hn hm fin
  · exact wpAny_loadName_cell S.fn hk hc hv fin
  · exact wpAny_loadName_free S.fn hk hc hv fin (by simpa using h4)

theorem store_ok {x : Str} {i : Nat} {o : O} {v' : Value} {Q : Unit → Shared → Prop} (S : FS G d X) (hcm : X.fi.names.lookup x = some .local ∨ X.cm = true) (F : At X W φ s ρ) (r : RO X W φ s.heap o v') (hx : X.fi.isOwn x i = true)
    (h : ∀ φ' s', At X W φ' s' (ρ.set i (some o)) → Ag W s.heap W s'.heap → Q () s') : wpAny X.C.M X.A (storeName X.env x v') Q E s := by
  simp only [FI.isOwn, Bool.and_eq_true, beq_iff_eq, Bool.or_eq_true] at hx
  obtain ⟨h1, h2⟩ := hx
  obtain ⟨p, r, hp⟩ := r
  have ti : ∀ y, X.fi.tbl.lookup y = some i → y = x := fun y hy => S.ti y x i hy h1
  rcases h2 with h2 | h2
  · have hk := (S.kind x).trans h2
    obtain ⟨o1, es, ep, ho, hd, hs⟩ := F.f.ns
    have hn : s.heap.Ns X.env.locals (fun y => nsFind es y) := ⟨o1, es, ep, ho, hd, hs, fun _ => rfl⟩
    refine wpAny_storeName_local hk hn (fun h' hn' hs' => ?_) (by rw [S.fn]; rfl)
    have hC : ∀ y c, X.env.cells.lookup y = some c → c ≠ X.env.locals := fun y c hc q => by
      obtain ⟨o2, _, e2, e3⟩ := F.f.cells y c hc; rw [q, ho] at e2; cases e2; rw [hd] at e3; cases e3
    obtain ⟨A, B⟩ := F.store (t := s.toks + 1) ti h1 r hp (.inl rfl) hs' (.inl ⟨hk, _, hn', by simp⟩) (fun y w hy q => by
      rcases q with ⟨a1, m, a2, a3⟩ | ⟨a1, c, a2, a3⟩
      · refine .inl ⟨a1, _, hn', ?_⟩
        rw [if_neg hy]
        obtain ⟨o2, es2, ep2, ho2, hd2, _, hf2⟩ := a2
        rw [ho] at ho2; cases ho2; rw [hd] at hd2; cases hd2
        exact (hf2 y).trans a3
      · exact .inr ⟨a1, c, a2, a3.sameBut hs' (hC y c a2)⟩)
      (by obtain ⟨o2, es2, ep2, a, b, c, _⟩ := hn'; exact ⟨o2, es2, ep2, a, b, c⟩) (fun y c hc => by
        obtain ⟨o2, v2, a, b⟩ := F.f.cells y c hc; exact ⟨o2, v2, (hs'.2 c (hC y c hc)).trans a, b⟩)
    exact h _ _ A B
  · have hcm : X.cm = true := hcm.resolve_left fun q => by rw [h2] at q; cases q
    have hk := (S.kind x).trans h2
    obtain ⟨c, hc⟩ := S.cel x (.inl h2)
    obtain ⟨o1, w, ho, hd⟩ := F.f.cells x c hc
    refine wpAny_storeName_cell S.fn hk hc ⟨o1, ho, hd⟩ fun h' hc' hs' => ?_
    have hL : X.env.locals ≠ c := fun q => by
      obtain ⟨o2, _, _, e2, e3, _⟩ := F.f.ns; rw [q, ho] at e2; cases e2; rw [hd] at e3; cases e3
    obtain ⟨A, B⟩ := F.store (t := s.toks) ti h1 r hp (.inr ⟨hcm, x, hc⟩) hs' (.inr ⟨.inl hk, c, hc, hc'⟩) (fun y w hy q => by
      rcases q with ⟨a1, m, a2, a3⟩ | ⟨a1, c2, a2, a3⟩
      · exact .inl ⟨a1, m, a2.sameBut hs' hL, a3⟩
      · exact .inr ⟨a1, c2, a2, a3.sameBut hs' fun q => hy (S.inj y x c (q ▸ a2) hc)⟩)
      (by obtain ⟨o2, es2, ep2, a, b, c⟩ := F.f.ns; exact ⟨o2, es2, ep2, (hs'.2 _ hL).trans a, b, c⟩) (fun y c2 hc2 => by
        by_cases q : c2 = c
        · subst q; obtain ⟨o2, a, b⟩ := hc'; exact ⟨o2, _, a, b⟩
        · obtain ⟨o2, v2, a, b⟩ := F.f.cells y c2 hc2; exact ⟨o2, v2, (hs'.2 c2 q).trans a, b⟩)
    exact h _ _ A B

theorem glob_ok {x : Str} {p : Pos} {v : Value} {Q : Value → Shared → Prop} (S : FS G d X) (F : At X W φ s ρ) (hx : X.fi.isGlob x = true) (hv : X.C.mg x = some v) (h : Q v s) : wpAny X.C.M X.A (eval (.Name x p) X.env) Q E s := by
  simp only [FI.isGlob, Bool.and_eq_true, beq_iff_eq, bne_iff_ne, ne_eq] at hx
  refine PySem.Calls.Name_function_global S.fn ((S.kind x).trans hx.1) (PySem.Calls.loadGlobal_global (mg := X.C.mg) ?_ hv h) (by simpa using hx.2)
  rw [S.gl]; exact S.g.g.keeps (F.keep S)
theorem bi_ok {x : Str} {p : Pos} {v : Value} {Q : Value → Shared → Prop} (S : FS G d X) (F : At X W φ s ρ) (hx : isBi G X.fi x = true) (hv : bootBuiltins x = some v) (h : Q v s) : wpAny X.C.M X.A (eval (.Name x p) X.env) Q E s := by
  simp only [isBi, FI.isGlob, Bool.and_eq_true, beq_iff_eq, bne_iff_ne, ne_eq, List.contains_iff_mem] at hx
  obtain ⟨⟨h1, h2⟩, h3⟩ := hx
  obtain ⟨h4, h5⟩ := S.g.bn x h3
  refine PySem.Calls.Name_function_global S.fn ((S.kind x).trans h1) (PySem.Calls.loadGlobal_builtin (mg := X.C.mg) (mb := X.C.mb) ?_ h4 ?_ ((S.g.bi x h5).trans hv) h) (by simpa using h2)
  · rw [S.gl]; exact S.g.g.keeps (F.keep S)
  · rw [S.bi]; exact S.g.b.keeps (F.keep S)
end
end Mine
end

section
open PySem
set_option autoImplicit false
set_option linter.unusedVariables false
namespace Mine
open PySem.W (Frag kitOne keepIn Looks)

set_option genSizeOf false in
set_option genInjectivity false in
inductive Fl where
  | next
  | ret (o : O)
set_option genSizeOf false in
set_option genInjectivity false in
inductive Tk where
  | b (b : Bool)
  | r (o : O)
  | l (fl : Fl) (ρ : Loc)
  | vs (l : List V)
structure St where
  ρ : Loc
  tp : List Tk
  ob : List Prop
noncomputable def All (l : List Prop) : Prop := @List.rec Prop (fun _ => Prop) True (fun p _ q => p ∧ q) l
theorem All.app : ∀ {l m : List Prop}, All (l ++ m) → All l ∧ All m
  | [], _, h => ⟨trivial, h⟩
  | _ :: _, _, h => ⟨⟨h.1, (All.app h.2).1⟩, (All.app h.2).2⟩

noncomputable def bd {α β : Type} (x : Option (α × St)) (f : α → St → Option (β × St)) : Option (β × St) := x.bind fun p => f p.1 p.2
noncomputable def rt {α : Type} (x : Option (α × List Prop)) (σ : St) : Option (α × St) := x.bind fun p => some (p.1, ⟨σ.ρ, σ.tp, p.2 ++ σ.ob⟩)
noncomputable def pu {α : Type} (x : α) (σ : St) : Option (α × St) := some (x, σ)
noncomputable def slot (ρ : Loc) (i : Nat) : Option O := (ρ[i]?).bind id
theorem slot_some {ρ : Loc} {i : Nat} {o : O} (e : slot ρ i = some o) : ρ[i]? = some (some o) := by
  unfold slot at e; cases q : ρ[i]? with
  | none => rw [q] at e; cases e
  | some x => rw [q] at e; exact congrArg some e

def Ok {α : Type} (ev : St → Option (α × St)) (S : Loc → α → Loc → Prop) : Prop := ∀ σ a σ', ev σ = some (a, σ') → All σ'.ob → All σ.ob ∧ S σ.ρ a σ'.ρ
section
variable {α β : Type} {S : Loc → α → Loc → Prop} {S' : Loc → β → Loc → Prop}
theorem Ok.bd {f : St → Option (α × St)} {g : α → St → Option (β × St)} (hf : Ok f S) {R : α → Loc → β → Loc → Prop} (hg : ∀ a, Ok (g a) (R a)) (k : ∀ ρ a ρ₁ b ρ', S ρ a ρ₁ → R a ρ₁ b ρ' → S' ρ b ρ') : Ok (fun σ => bd (f σ) g) S' := by
  intro σ b σ' e h
  obtain ⟨⟨a, σ₁⟩, e1, e2⟩ := Option.bind_eq_some_iff.mp e
  obtain ⟨h1, h2⟩ := hg a σ₁ b σ' e2 h
  obtain ⟨h3, h4⟩ := hf σ a σ₁ e1 h1
  exact ⟨h3, k _ _ _ _ _ h4 h2⟩
theorem Ok.rt {x : Option (α × List Prop)} (k : ∀ a p ρ, x = some (a, p) → All p → S ρ a ρ) : Ok (rt x) S := by
  intro σ a σ' e h
  obtain ⟨⟨a', p⟩, e1, e2⟩ := Option.bind_eq_some_iff.mp e
  cases e2
  obtain ⟨h1, h2⟩ := All.app h
  exact ⟨h2, k _ p _ e1 h1⟩
theorem Ok.pu {x : α} (k : ∀ ρ, S ρ x ρ) : Ok (pu x) S := fun σ a σ' e h => by cases e; exact ⟨h, k _⟩
theorem Ok.none {f : St → Option (α × St)} (h : ∀ σ, f σ = none) : Ok f S := fun σ a σ' e => by rw [h] at e; cases e
end

structure Gs (W : WS) (s : Shared) (W' : WS) (s' : Shared) : Prop where
  g : Grow W s.heap W' s'.heap
  gens : s'.gens = s.gens
  os : s'.os = s.os
noncomputable def RN (h : Heap) (W' : WS) (h' : Heap) (o : O) (v' : Value) : Prop := O.rec (fun v => VR W' h' v v') (fun r => ∃ a, v' = .ref a ∧ h.get? a = none ∧ ¬ W' a ∧ OwnAt W' h' a r) o
noncomputable def BR (W : WS) (h : Heap) (o : O) (v' : Value) : Prop := O.rec (fun v => VR W h v v') (fun r => ∃ a, v' = .ref a ∧ OwnAt W h a r) o
def Aft (W : WS) (s : Shared) (Q : Value → Shared → Prop) (o : O) : Prop := ∀ v' W' s', Gs W s W' s' → RN s.heap W' s'.heap o v' → Q v' s'

section
variable {X : FC} {W : WS} {φ : Nat → List Addr} {s : Shared} {ρ : Loc} {Q : Value → Shared → Prop}
theorem At.gs (F : At X W φ s ρ) {W' : WS} {s' : Shared} (g : Gs W s W' s') : At X W' φ s' ρ :=
  have A := F.grow (t := s'.toks) g.g
  ⟨g.gens.trans F.gens, g.os.trans F.os, A.f, A.lr, A.ow⟩
theorem RN.ro (F : At X W φ s ρ) {W' : WS} {h' : Heap} {o : O} {v' : Value} (r : RN s.heap W' h' o v') : RO X W' φ h' o v' := by
  cases o with
  | val v => exact .val r
  | own r' =>
    obtain ⟨a, rfl, e, w, z⟩ := r
    refine ⟨[a], ⟨a, rfl, rfl, z⟩, fun b q => ?_⟩
    cases List.mem_singleton.mp q
    refine ⟨w, fun m => ?_, ?_⟩
    · rcases m with m | ⟨_, x, m⟩ | ⟨i, m⟩
      · obtain ⟨o, _, _, z, _⟩ := F.f.ns; rw [← m, e] at z; cases z
      · obtain ⟨o, _, z, _⟩ := F.f.cells x a m; rw [e] at z; cases z
      · obtain ⟨_, _, z⟩ := F.ow i a m; rw [e] at z; cases z
    · cases q : X.pin a with
      | none => rfl
      | some o => have := F.f.pin a o q; rw [e] at this; cases this
theorem Gs.toks (wf : ∀ a, W a → ∃ o, s.heap.get? a = some o) (t : Nat) : Gs W s W { s with toks := t } := ⟨⟨fun _ _ e => e, fun _ q => q, wf, fun _ _ _ q => q⟩, rfl, rfl⟩
theorem Aft.here {v : V} {v' : Value} {t : Nat} (k : Aft W s Q (.val v)) (wf : ∀ a, W a → ∃ o, s.heap.get? a = some o) (r : VR W s.heap v v') : Q v' { s with toks := t } := k _ _ _ (.toks wf t) r
theorem fresh_size (h : Heap) : h.get? h.objs.size = none := by
  cases q : h.get? h.objs.size with
  | none => rfl
  | some o => exact absurd (Heap.lt_size q) (Nat.lt_irrefl _)
theorem none_of_le {h : Heap} {a : Addr} (e : h.objs.size ≤ a) : h.get? a = none := by
  cases q : h.get? a with
  | none => rfl
  | some o => exact absurd (Heap.lt_size q) (Nat.not_lt.mpr e)
theorem Gs.of (wf : ∀ a, W a → ∃ o, s.heap.get? a = some o) {h' : Heap} {t : Nat} (k : ∀ a o, s.heap.get? a = some o → h'.get? a = some o) : Gs W s W { s with heap := h', toks := t } :=
  ⟨⟨k, fun _ q => q, fun a q => (wf a q).elim fun o e => ⟨o, k a o e⟩, fun _ _ _ q => q⟩, rfl, rfl⟩
theorem Aft.tuple {l : List V} {vs : Array Value} {e t : Nat} (k : Aft W s Q (.val (.tup l))) (wf : ∀ a, W a → ∃ o, s.heap.get? a = some o) (r : VRs W s.heap l vs.toList) (hz : l.length ≤ sizeLine) :
    Q (.ref s.heap.objs.size) { s with heap := s.heap.push (tupO vs e), toks := t } := by
  have hk : ∀ a o, s.heap.get? a = some o → (s.heap.push (tupO vs e)).get? a = some o := fun _ _ q => Heap.get?_push_of_some _ q
  have g : Grow W s.heap (fun b => W b ∨ b = s.heap.objs.size) (s.heap.push (tupO vs e)) := by
    refine ⟨hk, fun _ q => .inl q, fun a q => ?_, fun a o z q => q.elim id fun q => by rw [q, fresh_size] at z; cases z⟩
    rcases q with q | q
    · obtain ⟨o, z⟩ := wf a q; exact ⟨o, hk a o z⟩
    · rw [q]; exact ⟨_, Heap.get?_push_size _ rfl⟩
  exact k _ _ _ ⟨g, rfl, rfl⟩ ⟨_, vs, e, rfl, .inr rfl, Heap.get?_push_size _ rfl, hz, VRs.ag (g.ag wf) r⟩
theorem Aft.listAt {r : List V} {vs : Array Value} {e t a : Nat} {h' : Heap} (k : Aft W s Q (.own r)) (wf : ∀ a, W a → ∃ o, s.heap.get? a = some o) (hk : ∀ a o, s.heap.get? a = some o → h'.get? a = some o) (ha : s.heap.get? a = none)
    (ho : h'.get? a = some (lstO vs e)) (hr : VRs W s.heap r.reverse vs.toList) (hz : r.length ≤ sizeLine) : Q (.ref a) { s with heap := h', toks := t } :=
  have g := Gs.of (t := t) wf hk
  k _ _ _ g ⟨a, rfl, ha, (fun q => (wf a q).elim fun o z => by rw [ha] at z; cases z), vs, e, ho, VRs.ag (g.g.ag wf) hr, hz⟩
theorem Aft.list {r : List V} {vs : Array Value} {e t : Nat} (k : Aft W s Q (.own r)) (wf : ∀ a, W a → ∃ o, s.heap.get? a = some o) (hr : VRs W s.heap r.reverse vs.toList) (hz : r.length ≤ sizeLine) :
    Q (.ref s.heap.objs.size) { s with heap := s.heap.push (lstO vs e), toks := t } :=
  k.listAt wf (fun _ _ q => Heap.get?_push_of_some _ q) (fresh_size _) (Heap.get?_push_size _ rfl) hr hz
end

structure Pst (X : FC) (W : WS) (s : Shared) (W' : WS) (φ' : Nat → List Addr) (s' : Shared) (ρ' : Loc) : Prop where
  f : At X W' φ' s' ρ'
  ag : Ag W s.heap W' s'.heap
  vl : ∀ x v', Val X.env s.heap x v' → Val X.env s'.heap x v'

section
variable (G : Gl) (d : Nat) (fi : FI)
def EvG (x : Expr) (ρ : Loc) (o : O) (ρ' : Loc) : Prop := ∀ (X : FC) (E : Value → Shared → Prop) (W : WS) (φ : Nat → List Addr) (s : Shared), X.fi = fi → FS G d X → At X W φ s ρ →
  ∀ Q : Value → Shared → Prop, (∀ v' W' φ' s', Pst X W s W' φ' s' ρ' → RO X W' φ' s'.heap o v' → Q v' s') → wpAny X.C.M X.A (eval x X.env) Q E s
def EvV (x : Expr) (ρ : Loc) (v : V) (ρ' : Loc) : Prop := ∀ (X : FC) (E : Value → Shared → Prop) (W : WS) (φ : Nat → List Addr) (s : Shared), X.fi = fi → FS G d X → At X W φ s ρ →
  ∀ Q : Value → Shared → Prop, (∀ v' W' φ' s', Pst X W s W' φ' s' ρ' → VR W' s'.heap v v' → Q v' s') → wpAny X.C.M X.A (eval x X.env) Q E s
def PkG (x : Expr) (ρ : Loc) (o : O) (ρ' : Loc) : Prop := ∀ (X : FC) (E : Value → Shared → Prop) (W : WS) (φ : Nat → List Addr) (s : Shared), X.fi = fi → FS G d X → At X W φ s ρ →
  ∀ Q : Value → Shared → Prop, (∀ v' W' φ' s', Pst X W s W' φ' s' ρ' → BR W' s'.heap o v' → Q v' s') → wpAny X.C.M X.A (eval x X.env) Q E s
def TrG (x : Expr) (ρ : Loc) (t : Bool) (ρ' : Loc) : Prop := ∀ (X : FC) (E : Value → Shared → Prop) (W : WS) (φ : Nat → List Addr) (s : Shared), X.fi = fi → FS G d X → At X W φ s ρ →
  ∀ Q : Bool → Shared → Prop, (∀ W' φ' s', Pst X W s W' φ' s' ρ' → Q t s') → wpAny X.C.M X.A (isTrue x X.env (eval x X.env)) Q E s
abbrev plainArgs (xs : List Expr) (env : Env) : List (Bool × Sem Value) := xs.map fun x => (false, eval x env)
def RwG (xs : List Expr) (ρ : Loc) (vs : List V) (ρ' : Loc) : Prop := vs.length = xs.length ∧ ∀ (X : FC) (E : Value → Shared → Prop) (W : WS) (φ : Nat → List Addr) (s : Shared), X.fi = fi → FS G d X → At X W φ s ρ →
  ∀ Q : List Value → Shared → Prop, (∀ vs' W' φ' s', Pst X W s W' φ' s' ρ' → VRs W' s'.heap vs vs' → Q vs' s') → wpAny X.C.M X.A (spliced (plainArgs xs X.env)) Q E s
end
section
variable {G : Gl} {d : Nat} {fi : FI} {x : Expr} {ρ ρ' ρ₁ : Loc} {o : O} {X : FC} {W W' W'' : WS} {φ φ' φ'' : Nat → List Addr} {s s' s'' : Shared}
theorem Pst.refl (F : At X W φ s ρ) : Pst X W s W φ s ρ := ⟨F, .refl .., fun _ _ r => r⟩
theorem Pst.trans (p : Pst X W s W' φ' s' ρ₁) (q : Pst X W' s' W'' φ'' s'' ρ') : Pst X W s W'' φ'' s'' ρ' := ⟨q.f, p.ag.trans q.ag, fun x v r => q.vl x v (p.vl x v r)⟩
theorem Pst.gs (F : At X W φ s ρ) (g : Gs W s W' s') : Pst X W s W' φ s' ρ := ⟨F.gs g, g.g.ag F.f.wf, fun _ _ r => r.grow g.g.k⟩
theorem EvG.v (h : EvG G d fi x ρ o ρ') : EvV G d fi x ρ o.frz ρ' := fun X E W φ s e S F Q k => h X E W φ s e S F Q fun v' W' φ' s' p r => by
  obtain ⟨W'', A, B, C⟩ := p.f.frz r
  exact k v' W'' φ' s' ⟨A, p.ag.trans B, p.vl⟩ C
theorem RO.br {h : Heap} {v' : Value} (r : RO X W φ h o v') : BR W h o v' := by
  obtain ⟨p, r, _⟩ := r
  cases o with
  | val v => exact r.2
  | own r' => obtain ⟨a, _, e, z⟩ := r; exact ⟨a, e, z⟩
theorem EvG.pk (h : EvG G d fi x ρ o ρ') : PkG G d fi x ρ o ρ' := fun X E W φ s e S F Q k => h X E W φ s e S F Q fun v' W' φ' s' p r => k v' W' φ' s' p r.br
theorem Aft.of {Q : Value → Shared → Prop} (p : Pst X W s W' φ' s' ρ') (k : ∀ v' W' φ' s', Pst X W s W' φ' s' ρ' → RO X W' φ' s'.heap o v' → Q v' s') : Aft W' s' Q o := fun v' W'' s'' g r => k v' W'' φ' s'' (p.trans (.gs p.f g)) (r.ro p.f)
end
end Mine
end

section
open PySem
set_option autoImplicit false
set_option linter.unusedVariables false
namespace Mine
open PySem.W (Frag kitOne keepIn Looks)

def plainX : Expr → Bool
  | .Starred _ _ => false
  | .Slice _ _ _ _ => false
  | .Set _ _ _ => false
  | _ => true
def isComp : Expr → Bool
  | .ListComp _ _ _ _ => true
  | .SetComp _ _ _ _ => true
  | .DictComp _ _ _ _ _ => true
  | _ => false

noncomputable def V.int? (v : V) : Option Int := V.casesOn v Option.none (fun _ => Option.none) some (fun _ => Option.none) (fun _ => Option.none) (fun _ => Option.none)
noncomputable def V.str? (v : V) : Option (List Nat) := V.casesOn v Option.none (fun _ => Option.none) (fun _ => Option.none) some (fun _ => Option.none) (fun _ => Option.none)
noncomputable def V.tup? (v : V) : Option (List V) := V.casesOn v Option.none (fun _ => Option.none) (fun _ => Option.none) (fun _ => Option.none) some (fun _ => Option.none)
noncomputable def V.lst? (v : V) : Option (List V) := V.casesOn v Option.none (fun _ => Option.none) (fun _ => Option.none) (fun _ => Option.none) (fun _ => Option.none) some
theorem V.int_of {v : V} {i : Int} (e : v.int? = some i) : v = .int i := by cases v <;> cases e; rfl
theorem V.str_of {v : V} {i : List Nat} (e : v.str? = some i) : v = .str i := by cases v <;> cases e; rfl
theorem V.tup_of {v : V} {i : List V} (e : v.tup? = some i) : v = .tup i := by cases v <;> cases e; rfl
theorem V.lst_of {v : V} {i : List V} (e : v.lst? = some i) : v = .lst i := by cases v <;> cases e; rfl
noncomputable def truthB (o : O) : Bool := O.rec (fun v => V.casesOn v false id (fun i => i != 0) (fun s => !s.isEmpty) (fun l => !l.isEmpty) (fun l => !l.isEmpty)) (fun r => !r.isEmpty) o

theorem sizeLine_lt : sizeLine < 2 ^ 62 := by unfold sizeLine; omega
theorem arr_empty {l : List V} {vs : Array Value} (h : vs.size = l.length) : vs.isEmpty = l.isEmpty := by
  rw [Bool.eq_iff_iff]; simp [List.isEmpty_iff, ← List.length_eq_zero_iff, ← h]

section
variable {C : Cx} {A : Around} {E : Value → Shared → Prop} {W : WS} {s : Shared}
theorem truth_list {a : Addr} {vs : Array Value} {n : Nat} {l : List V} {Q : Bool → Shared → Prop} (e : s.heap.get? a = some (lstO vs n)) (r : VRs W s.heap l vs.toList) (hz : l.length ≤ sizeLine) (h : ∀ tk, Q (!l.isEmpty) { s with toks := tk }) : wpAny C.M A (truthy (.ref a)) Q E s := by
  have hs := r.size
  have := sizeLine_lt
  refine wpAny_truthy_list ⟨_, e, rfl, _, rfl⟩ (by rw [hs]; omega) ?_
  rw [arr_empty hs]; exact h _
theorem truth_ok {o : O} {v' : Value} {Q : Bool → Shared → Prop} (r : BR W s.heap o v') (h : ∀ tk, Q (truthB o) { s with toks := tk }) : wpAny C.M A (truthy v') Q E s := by
  have hz := sizeLine_lt
  cases o with
  | own r' =>
    obtain ⟨a, rfl, vs, n, e, x, y⟩ := r
    refine truth_list e x (by simpa using y) ?_
    rw [List.isEmpty_reverse]; exact h
  | val v =>
    cases v with
    | none => cases r; exact fun _ _ _ => h _
    | bool b => cases r; exact wpAny_truthy_bool (h s.toks)
    | int i => obtain ⟨t, rfl⟩ := r; exact P.truthy_int (h s.toks)
    | str z =>
      obtain ⟨t, rfl, ok, hl⟩ := r
      refine P.truthy_str (by simp [Str.length]; omega) ?_
      have : (((⟨z.toArray⟩ : Str).length : Int) != 0) = !z.isEmpty := by cases z <;> simp [Str.length]; omega
      rw [this]; exact h _
    | tup l =>
      obtain ⟨a, vs, n, rfl, _, e, hl, hr⟩ := VR.tup r
      have hs := hr.size
      refine PyProof.Rows.truthy_tuple ⟨_, e, rfl, _, rfl⟩ (by rw [hs]; omega) ?_
      rw [arr_empty hs]; exact h _
    | lst l =>
      obtain ⟨a, vs, n, rfl, _, e, hl, hr⟩ := VR.lst r
      exact truth_list e hr hl h
end

structure T (G : Gl) (d : Nat) (fi : FI) where
  x : Expr
  ev : St → Option (O × St)
  pk : St → Option (O × St)
  tr : St → Option (Bool × St)
  pl : plainX x = true
  eo : Ok ev (EvG G d fi x)
  po : Ok pk (PkG G d fi x)
  to : Ok tr (TrG G d fi x)
structure Rw (G : Gl) (d : Nat) (fi : FI) where
  xs : List Expr
  ev : St → Option (List V × St)
  pl : ∀ x, x ∈ xs → plainX x = true
  eo : Ok ev (RwG G d fi xs)

section
variable {G : Gl} {d : Nat} {fi : FI}
abbrev trPlain (x : Expr) : Prop := ∀ env, isTrue x env (eval x env) = (do let v ← eval x env; standAt x.pos; holding [v] (truthy v))
theorem PkG.tr {x : Expr} {ρ ρ' : Loc} {o : O} (h : PkG G d fi x ρ o ρ') (ht : trPlain x) : TrG G d fi x ρ (truthB o) ρ' := fun X E W φ s e S F Q k =>
  wpAny_isTrue_value (h X E W φ s e S F _ fun v' W' φ' s' p r => truth_ok r fun tk => k W' φ' { s' with toks := tk } ⟨p.f.toks tk, p.ag, p.vl⟩) (ht X.env)
theorem Ok.mono {α : Type} {f : St → Option (α × St)} {S S' : Loc → α → Loc → Prop} (h : Ok f S) (k : ∀ ρ a ρ', S ρ a ρ' → S' ρ a ρ') : Ok f S' := fun σ a σ' e q => ⟨(h σ a σ' e q).1, k _ _ _ (h σ a σ' e q).2⟩
noncomputable def tst (f : St → Option (O × St)) (σ : St) : Option (Bool × St) := bd (f σ) fun o σ => pu (truthB o) σ
theorem Ok.tst {x : Expr} {f : St → Option (O × St)} (h : Ok f (PkG G d fi x)) (ht : trPlain x) : Ok (tst f) (TrG G d fi x) :=
  h.bd (R := fun o ρ t ρ' => t = truthB o ∧ ρ = ρ') (fun o => .pu fun _ => ⟨rfl, rfl⟩) fun ρ o ρ₁ t ρ' a b => by obtain ⟨rfl, rfl⟩ := b; exact a.tr ht
noncomputable def T.mk' (x : Expr) (ev : St → Option (O × St)) (pl : plainX x = true) (eo : Ok ev (EvG G d fi x)) (ht : trPlain x) : T G d fi :=
  have po := eo.mono fun _ _ _ h => h.pk
  ⟨x, ev, ev, tst ev, pl, eo, po, po.tst ht⟩

theorem EvG.here {x : Expr} {ρ : Loc} {v : V} (h : ∀ (M : Model) (A : Around) (E : Value → Shared → Prop) (env : Env) (W : WS) (s : Shared) (Q : Value → Shared → Prop), (∀ v' t, VR W s.heap v v' → Q v' { s with toks := t }) → wpAny M A (eval x env) Q E s) : EvG G d fi x ρ (.val v) ρ :=
  fun X E W φ s e S F Q k => h _ _ _ _ W s Q fun v' t r => k v' W φ _ ⟨F.toks t, .refl .., fun _ _ r => r⟩ (.val r)
noncomputable def eNone (k : Nat) (p : Pos) : T G d fi := .mk' (.Constant .none k p) (pu (.val .none)) rfl (.pu fun _ => .here fun _ _ _ _ W s Q k => wpAny_Constant_none (k _ s.toks rfl)) fun _ => rfl
noncomputable def eBool (b : Bool) (k : Nat) (p : Pos) : T G d fi := .mk' (.Constant (.bool b) k p) (pu (.val (.bool b))) rfl (.pu fun _ => .here fun _ _ _ _ W s Q k => wpAny_Constant_bool (k _ s.toks rfl)) fun _ => rfl
noncomputable def eInt (i : Int) (k : Nat) (p : Pos) : T G d fi := .mk' (.Constant (.int i) k p) (pu (.val (.int i))) rfl (.pu fun _ => .here fun _ _ _ _ W s Q k => wpAny_Constant_int (k _ _ ⟨_, rfl⟩)) fun _ => rfl
noncomputable def eStr (x : Str) (z : List Nat) (k : Nat) (p : Pos) (e : x = ⟨z.toArray⟩) (h : (PyData.strOk ⟨z.toArray⟩ && Nat.ble z.length 1000) = true) : T G d fi :=
  .mk' (.Constant (.str x) k p) (pu (.val (.str z))) rfl (.pu fun _ => .here fun _ _ _ _ W s Q k => wpAny_Constant_str (k _ _ (by
    subst e
    rw [Bool.and_eq_true] at h
    exact ⟨_, rfl, h.1, Nat.le_trans (Nat.le_of_ble_eq_true h.2) (by decide)⟩))) fun _ => rfl

theorem lookup_upd {i : Nat} {ρ : Loc} {o : O} (e : slot ρ i = some o) : ρ[i]? = some (some o) := slot_some e
noncomputable def evVar (i : Nat) (σ : St) : Option (O × St) := (slot σ.ρ i).bind fun o => O.casesOn o (fun v => some (.val v, σ)) fun r => some (.val (.lst r.reverse), ⟨σ.ρ.set i (some (.val (.lst r.reverse))), σ.tp, σ.ob⟩)
noncomputable def pkVar (i : Nat) (σ : St) : Option (O × St) := (slot σ.ρ i).bind fun o => some (o, σ)
theorem OR.br {W : WS} {h : Heap} {p : List Addr} {o : O} {v' : Value} (r : OR W h p o v') : BR W h o v' := by
  cases o with
  | val v => exact r.2
  | own r' => obtain ⟨a, _, e, z⟩ := r; exact ⟨a, e, z⟩
theorem pkVar_ok {x : Str} {i : Nat} {p : Pos} (h : fi.isVar x i = true) : Ok (pkVar i) (PkG G d fi (.Name x p)) := by
  intro σ o σ' e q
  obtain ⟨o', e1, e2⟩ := Option.bind_eq_some_iff.mp e
  cases e2
  refine ⟨q, fun X E W φ s ef S F Q k => ?_⟩
  subst ef
  exact load_ok S F h (slot_some e1) fun v' _ _ _ r => k v' W φ s (.refl F) r.br
theorem evVar_ok {x : Str} {i : Nat} {p : Pos} (h : fi.isVar x i = true) : Ok (evVar i) (EvG G d fi (.Name x p)) := by
  intro σ o σ' e q
  obtain ⟨o', e1, e2⟩ := Option.bind_eq_some_iff.mp e
  have e1 := slot_some e1
  cases o' with
  | val v =>
    cases e2
    refine ⟨q, fun X E W φ s ef S F Q k => ?_⟩
    subst ef
    exact load_ok S F h e1 fun v' _ _ _ r => k v' W φ s (.refl F) (.val r.2)
  | own r' =>
    cases e2
    refine ⟨q, fun X E W φ s ef S F Q k => ?_⟩
    subst ef
    refine load_ok S F h e1 fun v' h1 h2 hv r => ?_
    obtain ⟨W', b2, b3, b4⟩ := F.frzVar (fun y hy => S.ti y x i hy h1) hv r
    exact k _ W' _ s ⟨b2, b3, fun _ _ r => r⟩ (.val b4)
noncomputable def eVar (x : Str) (i : Nat) (p : Pos) (h : fi.isVar x i = true) : T G d fi := ⟨.Name x p, evVar i, pkVar i, tst (pkVar i), rfl, evVar_ok h, pkVar_ok h, (pkVar_ok h).tst fun _ => rfl⟩
end
end Mine
end

section
open PySem
set_option autoImplicit false
set_option linter.unusedVariables false
namespace Mine

theorem noStar {x : Expr} (h : plainX x = true) {rest : List Expr} {env : Env} : starEach (x :: rest) env = (false, eval x env) :: starEach rest env := by
  cases x <;> first | rfl | cases h
theorem noMark {x : Expr} (h : plainX x = true) (op : CmpOp) : behindInMarks op x = false := by
  cases x <;> first | rfl | cases h
theorem backTo_plain (pos : Pos) (xs : List Expr) (env : Env) : backTo pos (plainArgs xs env) = plainArgs xs env := by
  simp [backTo, plainArgs]

section
variable {G : Gl} {d : Nat} {fi : FI}
theorem starEach_plain {env : Env} : ∀ {xs : List Expr}, (∀ x, x ∈ xs → plainX x = true) → starEach xs env = plainArgs xs env
  | [], _ => rfl
  | x :: xs, h => by rw [noStar (h x List.mem_cons_self), starEach_plain fun y q => h y (List.mem_cons_of_mem _ q)]; rfl
theorem Rw.back (r : Rw G d fi) (pos : Pos) (env : Env) : backTo pos (starEach r.xs env) = plainArgs r.xs env := by rw [starEach_plain r.pl, backTo_plain]

noncomputable def rNil : Rw G d fi := ⟨[], pu [], fun _ q => (nomatch q), .pu fun _ => ⟨rfl, fun X E W φ s e S F Q k => wpAny_pure (k [] W φ s (.refl F) rfl)⟩⟩
theorem RwG.cons {x : Expr} {xs : List Expr} {ρ ρ₁ ρ' : Loc} {v : V} {vs : List V} (h : EvV G d fi x ρ v ρ₁) (hs : RwG G d fi xs ρ₁ vs ρ') : RwG G d fi (x :: xs) ρ (v :: vs) ρ' :=
  ⟨congrArg (· + 1) hs.1, fun X E W φ s e S F Q k => PySem.Calls.spliced_cons (h X E W φ s e S F _ fun v' W₁ φ₁ s₁ p r => hs.2 X E W₁ φ₁ s₁ e S p.f _ fun vs' W₂ φ₂ s₂ p₂ r₂ => k _ W₂ φ₂ s₂ (p.trans p₂) (.cons (r.ag p₂.ag) r₂))⟩
noncomputable def rCons (a : T G d fi) (b : Rw G d fi) : Rw G d fi :=
  ⟨a.x :: b.xs, fun σ => bd (a.ev σ) fun x σ => bd (b.ev σ) fun vs σ => pu (x.frz :: vs) σ, fun y q => (List.mem_cons.mp q).elim (fun q => q ▸ a.pl) (b.pl y),
    a.eo.bd (R := fun o ρ vs ρ' => ∃ ws, vs = o.frz :: ws ∧ RwG G d fi b.xs ρ ws ρ') (fun o => b.eo.bd (R := fun ws ρ vs ρ' => vs = o.frz :: ws ∧ ρ = ρ') (fun ws => .pu fun _ => ⟨rfl, rfl⟩) fun _ ws _ _ _ h q => by obtain ⟨rfl, rfl⟩ := q; exact ⟨ws, rfl, h⟩)
      fun _ o _ _ _ h q => by obtain ⟨ws, rfl, hs⟩ := q; exact .cons h.v hs⟩

noncomputable def eTup (r : Rw G d fi) (k : Nat) (p : Pos) (h : Nat.ble r.xs.length 1000 = true) : T G d fi :=
  .mk' (.Tuple r.xs k p) (fun σ => bd (r.ev σ) fun vs σ => pu (.val (.tup vs)) σ) rfl
    (r.eo.bd (R := fun vs ρ o ρ' => o = .val (.tup vs) ∧ ρ = ρ') (fun vs => .pu fun _ => ⟨rfl, rfl⟩) fun _ vs _ _ _ hs q => by
      obtain ⟨rfl, rfl⟩ := q
      intro X E W φ s e S F Q k
      refine wpAny_Tuple ?_
      rw [r.back]
      refine hs.2 X E W φ s e S F _ fun vs' W' φ' s' p' r' => ?_
      have hz : vs.length ≤ sizeLine := by rw [hs.1]; exact Nat.le_trans (Nat.le_of_ble_eq_true h) (by decide)
      exact ⟨by rw [r'.length]; exact hz, (Aft.of p' k).tuple (t := s'.toks) p'.f.f.wf r' hz⟩) fun _ => rfl
noncomputable def eLst (r : Rw G d fi) (p : Pos) (h : Nat.ble r.xs.length 1000 = true) : T G d fi :=
  .mk' (.List r.xs p) (fun σ => bd (r.ev σ) fun vs σ => pu (.own vs.reverse) σ) rfl
    (r.eo.bd (R := fun vs ρ o ρ' => o = .own vs.reverse ∧ ρ = ρ') (fun vs => .pu fun _ => ⟨rfl, rfl⟩) fun _ vs _ _ _ hs q => by
      obtain ⟨rfl, rfl⟩ := q
      intro X E W φ s e S F Q k
      refine wpAny_List ?_
      rw [r.back]
      refine hs.2 X E W φ s e S F _ fun vs' W' φ' s' p' r' => ?_
      have hz : vs.length ≤ sizeLine := by rw [hs.1]; exact Nat.le_trans (Nat.le_of_ble_eq_true h) (by decide)
      exact ⟨by rw [r'.length]; exact hz, (Aft.of p' k).list (t := s'.toks) p'.f.f.wf (by rw [List.reverse_reverse]; exact r') (by rwa [List.length_reverse])⟩) fun _ => rfl

def Prim2 (G : Gl) (d : Nat) (tree : Value → Value → Sem Value) (k : V → V → Option (O × List Prop)) : Prop :=
  ∀ x y o ps, k x y = some (o, ps) → All ps → ∀ (X : FC) (E : Value → Shared → Prop) (W : WS) (φ : Nat → List Addr) (s : Shared) (ρ : Loc), FS G d X → At X W φ s ρ → ∀ x' y', VR W s.heap x x' → VR W s.heap y y' →
    ∀ Q, Aft W s Q o → wpAny X.C.M X.A (tree x' y') Q E s
noncomputable def ev2 (a b : T G d fi) (k : V → V → Option (O × List Prop)) (σ : St) : Option (O × St) := bd (a.ev σ) fun x σ => bd (b.ev σ) fun y σ => rt (k x.frz y.frz) σ
theorem ok2 {a b : T G d fi} {k : V → V → Option (O × List Prop)} {x : Expr} {tree : Value → Value → Sem Value} (h : Prim2 G d tree k)
    (rule : ∀ (M : Model) (A : Around) (E : Value → Shared → Prop) (s : Shared) (env : Env) (Q : Value → Shared → Prop), wpAny M A (eval a.x env) (fun a' s₁ => wpAny M A (eval b.x env) (fun b' s₂ => wpAny M A (tree a' b') Q E s₂) E s₁) E s → wpAny M A (eval x env) Q E s) :
    Ok (ev2 a b k) (EvG G d fi x) :=
  a.eo.bd (R := fun u ρ o ρ' => ∃ v ps, EvG G d fi b.x ρ v ρ' ∧ k u.frz v.frz = some (o, ps) ∧ All ps) (fun u => b.eo.bd (R := fun v ρ o ρ' => ∃ ps, k u.frz v.frz = some (o, ps) ∧ All ps ∧ ρ = ρ') (fun v => .rt fun o ps ρ e q => ⟨ps, e, q, rfl⟩)
    fun _ v _ _ _ h q => by obtain ⟨ps, q1, q2, rfl⟩ := q; exact ⟨v, ps, h, q1, q2⟩) fun _ u _ o _ h1 q => by
      obtain ⟨v, ps, h2, q1, q2⟩ := q
      intro X E W φ s e S F Q kk
      refine rule _ _ _ _ _ _ (h1.v X E W φ s e S F _ fun u' W₁ φ₁ s₁ p₁ r₁ => h2.v X E W₁ φ₁ s₁ e S p₁.f _ fun v' W₂ φ₂ s₂ p₂ r₂ => ?_)
      exact h _ _ _ _ q1 q2 X E W₂ φ₂ s₂ _ S p₂.f _ _ (r₁.ag p₂.ag) r₂ _ (Aft.of (p₁.trans p₂) kk)
noncomputable def eBin (op : Operator) (k : V → V → Option (O × List Prop)) (h : Prim2 G d (binaryOp op) k) (a b : T G d fi) (p : Pos) : T G d fi :=
  .mk' (.BinOp a.x op b.x p) (ev2 a b k) rfl (ok2 h fun _ _ _ _ _ _ q => wpAny_BinOp q) fun _ => rfl

noncomputable def kInt (f : Int → Int → Int) (c : Int → Int → List Prop) (x y : V) : Option (O × List Prop) := x.int?.bind fun i => y.int?.bind fun j => some (.val (.int (f i j)), c i j)
theorem primInt {op : Operator} {f : Int → Int → Int} {c : Int → Int → List Prop} (h : ∀ (C : Cx) (A : Around) (E : Value → Shared → Prop) (s : Shared) (i j : Int) (t u : Tok) (Q : Value → Shared → Prop), All (c i j) → (∀ t n, Q (.int (f i j) t) { s with toks := n }) → wpAny C.M A (binaryOp op (.int i t) (.int j u)) Q E s) :
    Prim2 G d (binaryOp op) (kInt f c) := by
  intro x y o ps e q X E W φ s ρ S F x' y' rx ry Q k
  obtain ⟨i, e1, e⟩ := Option.bind_eq_some_iff.mp e
  obtain ⟨j, e2, e⟩ := Option.bind_eq_some_iff.mp e
  cases e
  rw [V.int_of e1] at rx; rw [V.int_of e2] at ry
  obtain ⟨t, rfl⟩ := rx
  obtain ⟨u, rfl⟩ := ry
  exact h _ _ _ _ _ _ _ _ _ q fun t n => k.here F.f.wf ⟨t, rfl⟩
noncomputable def eAdd : T G d fi → T G d fi → Pos → T G d fi := eBin .Add (kInt (· + ·) fun _ _ => []) (primInt fun _ _ _ _ _ _ _ _ _ _ k => P.add_int (k _ _))
noncomputable def eSub : T G d fi → T G d fi → Pos → T G d fi := eBin .Sub (kInt (· - ·) fun _ _ => []) (primInt fun _ _ _ _ _ _ _ _ _ _ k => P.sub_int (k _ _))
noncomputable def eMul : T G d fi → T G d fi → Pos → T G d fi := eBin .Mult (kInt (· * ·) fun i j => [i.natAbs < 2 ^ 62 ∨ j.natAbs < 2 ^ 62]) (primInt fun _ _ _ _ _ _ _ _ _ q k => P.mul_int (k _ _) (by
  rcases q.1 with hc | hc
  · exact IntMulOk.of_left (intBits_le_64 (by omega) (by omega))
  · exact IntMulOk.of_right (intBits_le_64 (by omega) (by omega))))
noncomputable def eDiv : T G d fi → T G d fi → Pos → T G d fi := eBin .FloorDiv (kInt (· / ·) fun _ j => [0 < j ∧ j < 2 ^ 29]) (primInt fun _ _ _ s i j _ _ Q q k => by
  have hc := q.1
  refine AutoIntOps.floordiv_1 (by simp; omega) (by rw [PyProof.noPylong_small (by omega)]; decide) ?_
  show Q (.int (i.fdiv j) s.toks) _
  rw [Int.fdiv_eq_ediv_of_nonneg _ (by omega)]; exact k _ _)
noncomputable def eMod : T G d fi → T G d fi → Pos → T G d fi := eBin .Mod (kInt (· % ·) fun _ j => [0 < j]) (primInt fun _ _ _ s i j _ _ Q q k => by
  have hc := q.1
  refine AutoIntOps.mod_1 (by simp; omega) ?_
  show Q (.int (i.fmod j) s.toks) _
  rw [Int.fmod_eq_emod_of_nonneg _ (by omega)]; exact k _ _)
noncomputable def ePow : T G d fi → T G d fi → Pos → T G d fi := eBin .Pow (kInt (fun i j => i ^ j.toNat) fun i j => [i = 10 ∧ 0 < j ∧ j ≤ 100]) (primInt fun _ _ _ s i j _ _ Q q k => by
  obtain ⟨rfl, hj0, hj1⟩ := q.1
  refine AutoIntOps.pow_4 (by omega) (by simp; omega) (by decide) (by decide) ?_ (k _ _)
  have h10 : Builtin.Int.intBits 10 = 4 := by decide +kernel
  rw [h10]
  have hb : (bitsLine : Int) = 134217728 := by decide +kernel
  unfold Builtin.Int.intTooBig
  rw [decide_eq_true_eq, hb]
  omega)

theorem strOk_append {x y : List Nat} (hx : PyData.strOk ⟨x.toArray⟩ = true) (hy : PyData.strOk ⟨y.toArray⟩ = true) : PyData.strOk ⟨(x ++ y).toArray⟩ = true := by
  simp [PyData.strOk] at *
  exact ⟨hx, hy⟩
theorem strOk_of {x y : List Nat} (hx : PyData.strOk ⟨x.toArray⟩ = true) (h : ∀ c ∈ y, c ∈ x) : PyData.strOk ⟨y.toArray⟩ = true := by
  simp [PyData.strOk] at *
  exact fun c hc => hx c (h c hc)
theorem str_append (x y : List Nat) : (⟨x.toArray⟩ : Str) ++ ⟨y.toArray⟩ = ⟨(x ++ y).toArray⟩ := by
  show Str.mk (x.toArray ++ y.toArray) = _
  simp
def room : Nat := 1000000
theorem room_le : room ≤ sizeLine := by decide

noncomputable def kCat (x y : V) : Option (O × List Prop) := x.str?.bind fun i => y.str?.bind fun j => some (.val (.str (i ++ j)), [(i ++ j).length ≤ room])
theorem primCat : Prim2 G d (binaryOp .Add) kCat := by
  intro x y o ps e q X E W φ s ρ S F x' y' rx ry Q k
  obtain ⟨i, e1, e⟩ := Option.bind_eq_some_iff.mp e
  obtain ⟨j, e2, e⟩ := Option.bind_eq_some_iff.mp e
  cases e
  rw [V.str_of e1] at rx; rw [V.str_of e2] at ry
  obtain ⟨t, rfl, ok1, z1⟩ := rx
  obtain ⟨u, rfl, ok2, z2⟩ := ry
  have hz := Nat.le_trans q.1 room_le
  refine P.add_str ?_
  split
  · rename_i q
    have : i = [] := by simpa [Str.length] using q
    subst this
    exact k.here F.f.wf ⟨u, rfl, ok2, z2⟩
  · split
    · rename_i q
      have : j = [] := by simpa [Str.length] using q
      subst this
      rw [List.append_nil] at k
      exact k.here F.f.wf ⟨t, rfl, ok1, z1⟩
    · rw [str_append]
      exact ⟨by simpa [Str.length] using hz, k.here F.f.wf ⟨_, rfl, strOk_append ok1 ok2, hz⟩⟩
noncomputable def eCat : T G d fi → T G d fi → Pos → T G d fi := eBin .Add kCat primCat
noncomputable def kAddL (x y : V) : Option (O × List Prop) := x.lst?.bind fun i => y.lst?.bind fun j => some (.own (i ++ j).reverse, [(i ++ j).length ≤ room])
theorem primAddL : Prim2 G d (binaryOp .Add) kAddL := by
  intro x y o ps e q X E W φ s ρ S F x' y' rx ry Q k
  obtain ⟨i, e1, e⟩ := Option.bind_eq_some_iff.mp e
  obtain ⟨j, e2, e⟩ := Option.bind_eq_some_iff.mp e
  cases e
  rw [V.lst_of e1] at rx; rw [V.lst_of e2] at ry
  obtain ⟨a, vs, n, rfl, _, h1, z1, r1⟩ := VR.lst rx
  obtain ⟨b, ws, m, rfl, _, h2, z2, r2⟩ := VR.lst ry
  have hz := Nat.le_trans q.1 room_le
  refine P.add_list h1 h2 (k.list F.f.wf ?_ ?_) ?_
  · rw [Array.toList_append, List.reverse_reverse]; exact r1.append r2
  · rwa [List.length_reverse]
  · rw [r1.size, r2.size, ← List.length_append]; exact hz
noncomputable def eAddL : T G d fi → T G d fi → Pos → T G d fi := eBin .Add kAddL primAddL

theorem neg_ok {a : T G d fi} {p : Pos} : Ok (fun σ => bd (a.ev σ) fun x σ => rt (x.frz.int?.bind fun i => some (.val (.int (-i)), [])) σ) (EvG G d fi (.UnaryOp .USub a.x p)) :=
  a.eo.bd (R := fun x ρ o ρ' => ∃ i, x.frz = .int i ∧ o = .val (.int (-i)) ∧ ρ = ρ') (fun x => .rt fun o ps ρ e q => by
    obtain ⟨i, e1, e⟩ := Option.bind_eq_some_iff.mp e; cases e; exact ⟨i, V.int_of e1, rfl, rfl⟩) fun _ x _ _ _ h q => by
      obtain ⟨i, hx, rfl, rfl⟩ := q
      intro X E W φ s e S F Q k
      refine wpAny_UnaryOp (h.v X E W φ s e S F _ fun v' W' φ' s' p' r' => ?_)
      rw [hx] at r'
      obtain ⟨t, rfl⟩ := r'
      exact P.neg_int ((Aft.of p' k).here p'.f.f.wf ⟨_, rfl⟩)
noncomputable def eNeg (a : T G d fi) (p : Pos) : T G d fi := .mk' (.UnaryOp .USub a.x p) _ rfl (neg_ok (a := a)) fun _ => rfl
noncomputable def eNot (a : T G d fi) (p : Pos) : T G d fi where
  x := .UnaryOp .Not a.x p
  ev σ := bd (a.pk σ) fun x σ => pu (.val (.bool (!truthB x))) σ
  pk σ := bd (a.pk σ) fun x σ => pu (.val (.bool (!truthB x))) σ
  tr σ := bd (a.tr σ) fun t σ => pu (!t) σ
  pl := rfl
  eo := a.po.bd (R := fun x ρ o ρ' => o = .val (.bool (!truthB x)) ∧ ρ = ρ') (fun x => .pu fun _ => ⟨rfl, rfl⟩) fun _ x _ _ _ h q => by
    obtain ⟨rfl, rfl⟩ := q
    exact fun X E W φ s e S F Q k => wpAny_UnaryOp (h X E W φ s e S F _ fun v' W' φ' s' p' r' => not_value (truth_ok r' fun tk => k _ W' φ' _ ⟨p'.f.toks tk, p'.ag, p'.vl⟩ (.val rfl)))
  po := a.po.bd (R := fun x ρ o ρ' => o = .val (.bool (!truthB x)) ∧ ρ = ρ') (fun x => .pu fun _ => ⟨rfl, rfl⟩) fun _ x _ _ _ h q => by
    obtain ⟨rfl, rfl⟩ := q
    exact fun X E W φ s e S F Q k => wpAny_UnaryOp (h X E W φ s e S F _ fun v' W' φ' s' p' r' => not_value (truth_ok r' fun tk => k _ W' φ' _ ⟨p'.f.toks tk, p'.ag, p'.vl⟩ rfl))
  to := a.to.bd (R := fun t ρ u ρ' => u = !t ∧ ρ = ρ') (fun t => .pu fun _ => ⟨rfl, rfl⟩) fun _ t _ _ _ h q => by
    obtain ⟨rfl, rfl⟩ := q
    exact fun X E W φ s e S F Q k => wpAny_isTrue_Not (h X E W φ s e S F _ fun W' φ' s' p' => k W' φ' s' p')
end
end Mine
end

section
open PySem
set_option autoImplicit false
set_option linter.unusedVariables false
namespace Mine

noncomputable def Tk.b? (k : Tk) : Option Bool := Tk.casesOn k some (fun _ => none) (fun _ _ => none) (fun _ => none)
noncomputable def Tk.r? (k : Tk) : Option O := Tk.casesOn k (fun _ => none) some (fun _ _ => none) (fun _ => none)
noncomputable def Tk.l? (k : Tk) : Option (Fl × Loc) := Tk.casesOn k (fun _ => none) (fun _ => none) (fun a b => some (a, b)) (fun _ => none)
noncomputable def Tk.vs? (k : Tk) : Option (List V) := Tk.casesOn k (fun _ => none) (fun _ => none) (fun _ _ => none) some
noncomputable def told {α β : Type} (f : Tk → Option β) (p : Loc → β → Prop) (r : β → α) (ρ : β → Loc → Loc) (σ : St) : Option (α × St) :=
  List.casesOn σ.tp none fun k tp => (f k).bind fun b => some (r b, ⟨ρ b σ.ρ, tp, p σ.ρ b :: σ.ob⟩)
theorem Ok.told {α β : Type} {f : Tk → Option β} {p : Loc → β → Prop} {r : β → α} {ρ : β → Loc → Loc} {S : Loc → α → Loc → Prop} (k : ∀ b ρ₀, p ρ₀ b → S ρ₀ (r b) (ρ b ρ₀)) : Ok (told f p r ρ) S := by
  intro σ a σ' e h
  unfold Mine.told at e
  cases ht : σ.tp with
  | nil => rw [ht] at e; cases e
  | cons t tp =>
    rw [ht] at e
    obtain ⟨b, _, e⟩ := Option.bind_eq_some_iff.mp e
    cases e
    exact ⟨h.2, k b _ h.1⟩
noncomputable def dec (f t : Bool) (σ : St) : Option (Bool × St) := Bool.casesOn f (pu t σ) (told Tk.b? (fun _ b => t = b) id (fun _ ρ => ρ) σ)
theorem Ok.dec (f t : Bool) : Ok (dec f t) fun ρ b ρ' => b = t ∧ ρ = ρ' := by
  cases f with
  | false => exact .pu fun _ => ⟨rfl, rfl⟩
  | true => exact Ok.told (f := Tk.b?) (p := fun _ b => t = b) (r := id) (ρ := fun _ ρ => ρ) fun b _ h => ⟨h.symm, rfl⟩

section
variable {G : Gl} {d : Nat} {fi : FI}
noncomputable def sc (op : BoolOp) (t : Bool) : Bool := BoolOp.casesOn op (!t) t
def BvG (G : Gl) (d : Nat) (fi : FI) (pos : Pos) (op : BoolOp) (xs : List Expr) (ρ : Loc) (o : O) (ρ' : Loc) : Prop := ∀ (X : FC) (E : Value → Shared → Prop) (W : WS) (φ : Nat → List Addr) (s : Shared), X.fi = fi → FS G d X → At X W φ s ρ →
  ∀ Q : Value → Shared → Prop, (∀ v' W' φ' s', Pst X W s W' φ' s' ρ' → RO X W' φ' s'.heap o v' → Q v' s') → wpAny X.C.M X.A (boolOp pos op (evalEach xs X.env)) Q E s
def BtG (G : Gl) (d : Nat) (fi : FI) (op : BoolOp) (xs : List Expr) (ρ : Loc) (t : Bool) (ρ' : Loc) : Prop := ∀ (X : FC) (E : Value → Shared → Prop) (W : WS) (φ : Nat → List Addr) (s : Shared), X.fi = fi → FS G d X → At X W φ s ρ →
  ∀ Q : Bool → Shared → Prop, (∀ W' φ' s', Pst X W s W' φ' s' ρ' → Q t s') → wpAny X.C.M X.A (allTrue op xs X.env) Q E s
structure Bp (G : Gl) (d : Nat) (fi : FI) (op : BoolOp) where
  x : Expr
  xs : List Expr
  ev : St → Option (O × St)
  tr : St → Option (Bool × St)
  eo : ∀ pos, Ok ev (BvG G d fi pos op (x :: xs))
  to : Ok tr (BtG G d fi op (x :: xs))
theorem allTrue_one {op : BoolOp} {M : Model} {A : Around} {E : Value → Shared → Prop} {s : Shared} {env : Env} {x : Expr} {rest : List Expr} {Q : Bool → Shared → Prop}
    (h : wpAny M A (isTrue x env (eval x env)) (fun t s₁ => Bool.casesOn (motive := fun _ => Prop) (sc op t) (wpAny M A (allTrue op rest env) Q E s₁) (Q t s₁)) E s) : wpAny M A (allTrue op (x :: rest) env) Q E s := by
  cases op
  · exact wpAny_allTrue_And_cons (wpAny_mono h (fun t _ q => by cases t <;> exact q) fun _ _ q => q)
  · exact wpAny_allTrue_Or_cons (wpAny_mono h (fun t _ q => by cases t <;> exact q) fun _ _ q => q)
noncomputable def bLast (op : BoolOp) (a : T G d fi) : Bp G d fi op :=
  ⟨a.x, [], a.ev, a.tr, fun _ => a.eo, a.to.mono fun ρ t ρ' h X E W φ s e S F Q k => allTrue_one (h X E W φ s e S F _ fun W' φ' s' p => by
    cases op <;> cases t
    · exact k _ _ _ p
    · exact wpAny_allTrue_And_nil (k _ _ _ p)
    · exact wpAny_allTrue_Or_nil (k _ _ _ p)
    · exact k _ _ _ p)⟩
noncomputable def bCons (f : Bool) {op : BoolOp} (a : T G d fi) (b : Bp G d fi op) : Bp G d fi op where
  x := a.x
  xs := b.x :: b.xs
  ev σ := bd (a.ev σ) fun x σ => bd (dec f (truthB x) σ) fun t σ => Bool.casesOn (sc op t) (b.ev σ) (pu x σ)
  tr σ := bd (a.tr σ) fun t σ => bd (dec f t σ) fun t σ => Bool.casesOn (sc op t) (b.tr σ) (pu t σ)
  eo pos := a.eo.bd (R := fun x ρ o ρ' => Bool.casesOn (motive := fun _ => Prop) (sc op (truthB x)) (BvG G d fi pos op (b.x :: b.xs) ρ o ρ') (o = x ∧ ρ = ρ'))
    (fun x => (Ok.dec f _).bd (R := fun t ρ o ρ' => Bool.casesOn (motive := fun _ => Prop) (sc op t) (BvG G d fi pos op (b.x :: b.xs) ρ o ρ') (o = x ∧ ρ = ρ')) (fun t => by
      cases sc op t
      · exact b.eo pos
      · exact .pu fun _ => ⟨rfl, rfl⟩) fun _ t _ _ _ h q => by obtain ⟨rfl, rfl⟩ := h; exact q)
    fun _ x _ o _ h q X E W φ s e S F Q k => by
      show wpAny _ _ (eval a.x X.env >>= fun v => standAt pos >>= fun _ => holding [v] (truthy v) >>= fun t => _) Q E s
      refine wpAny_bind (h X E W φ s e S F _ fun v' W' φ' s' p' r' => wpAny_bind (wpAny_standAt (wpAny_bind (wpAny_holding (truth_ok r'.br fun tk => ?_)))))
      have p1 : Pst X W s W' φ' { s' with toks := tk } _ := ⟨p'.f.toks tk, p'.ag, p'.vl⟩
      revert q
      cases truthB x <;> cases op <;> intro q
      · obtain ⟨rfl, rfl⟩ := q; exact wpAny_pure (k _ _ _ _ p1 r')
      · exact q X E W' φ' _ e S p1.f _ fun v2 W2 φ2 s2 p2 r2 => k _ _ _ _ (p1.trans p2) r2
      · exact q X E W' φ' _ e S p1.f _ fun v2 W2 φ2 s2 p2 r2 => k _ _ _ _ (p1.trans p2) r2
      · obtain ⟨rfl, rfl⟩ := q; exact wpAny_pure (k _ _ _ _ p1 r')
  to := a.to.bd (R := fun t ρ u ρ' => Bool.casesOn (motive := fun _ => Prop) (sc op t) (BtG G d fi op (b.x :: b.xs) ρ u ρ') (u = t ∧ ρ = ρ'))
    (fun t => (Ok.dec f t).bd (R := fun t ρ u ρ' => Bool.casesOn (motive := fun _ => Prop) (sc op t) (BtG G d fi op (b.x :: b.xs) ρ u ρ') (u = t ∧ ρ = ρ')) (fun t => by
      cases sc op t
      · exact b.to
      · exact .pu fun _ => ⟨rfl, rfl⟩) fun _ t _ _ _ h q => by obtain ⟨rfl, rfl⟩ := h; exact q)
    fun _ t _ u _ h q X E W φ s e S F Q k => allTrue_one (h X E W φ s e S F _ fun W' φ' s' p' => by
      revert q
      cases sc op t <;> intro q
      · exact q X E W' φ' s' e S p'.f _ fun W2 φ2 s2 p2 => k _ _ _ (p'.trans p2)
      · obtain ⟨rfl, rfl⟩ := q; exact k _ _ _ p')
noncomputable def eBop {op : BoolOp} (r : Bp G d fi op) (p : Pos) : T G d fi :=
  ⟨.BoolOp op (r.x :: r.xs) p, r.ev, r.ev, r.tr, rfl, r.eo p, (r.eo p).mono fun ρ o ρ' h => EvG.pk h, r.to.mono fun ρ t ρ' h X E W φ s e S F Q k => wpAny_isTrue_BoolOp (h X E W φ s e S F Q k)⟩

def PrimC (G : Gl) (d : Nat) (op : CmpOp) (k : V → O → Option (Bool × List Prop)) : Prop :=
  ∀ x y t ps, k x y = some (t, ps) → All ps → ∀ (X : FC) (E : Value → Shared → Prop) (W : WS) (φ : Nat → List Addr) (s : Shared) (ρ : Loc), FS G d X → At X W φ s ρ → ∀ x' y', VR W s.heap x x' → BR W s.heap y y' →
    ∀ Q : Value → Shared → Prop, (∀ tk, Q (.bool t) { s with toks := tk }) → wpAny X.C.M X.A (compareOp op x' y') Q E s
def CmG (G : Gl) (d : Nat) (fi : FI) (op : CmpOp) (a b : Expr) (ρ : Loc) (t : Bool) (ρ' : Loc) : Prop := ∀ (X : FC) (E : Value → Shared → Prop) (W : WS) (φ : Nat → List Addr) (s : Shared), X.fi = fi → FS G d X → At X W φ s ρ →
  ∀ Q : Value → Shared → Prop, (∀ W' φ' s', Pst X W s W' φ' s' ρ' → Q (.bool t) s') → wpAny X.C.M X.A (eval a X.env) (fun a' s₁ => wpAny X.C.M X.A (eval b X.env) (fun b' s₂ => wpAny X.C.M X.A (compareOp op a' b') Q E s₂) E s₁) E s
noncomputable def evC (a b : T G d fi) (k : V → O → Option (Bool × List Prop)) (σ : St) : Option (Bool × St) := bd (a.ev σ) fun x σ => bd (b.pk σ) fun y σ => rt (k x.frz y) σ
theorem evC_ok {op : CmpOp} {k : V → O → Option (Bool × List Prop)} (h : PrimC G d op k) (a b : T G d fi) : Ok (evC a b k) (CmG G d fi op a.x b.x) :=
  a.eo.bd (R := fun u ρ t ρ' => ∃ v ps, PkG G d fi b.x ρ v ρ' ∧ k u.frz v = some (t, ps) ∧ All ps) (fun u => b.po.bd (R := fun v ρ t ρ' => ∃ ps, k u.frz v = some (t, ps) ∧ All ps ∧ ρ = ρ') (fun v => .rt fun t ps ρ e q => ⟨ps, e, q, rfl⟩)
    fun _ v _ _ _ h q => by obtain ⟨ps, q1, q2, rfl⟩ := q; exact ⟨v, ps, h, q1, q2⟩) fun _ u _ t _ h1 q => by
      obtain ⟨v, ps, h2, q1, q2⟩ := q
      exact fun X E W φ s e S F Q kk => h1.v X E W φ s e S F _ fun u' W₁ φ₁ s₁ p₁ r₁ => h2 X E W₁ φ₁ s₁ e S p₁.f _ fun v' W₂ φ₂ s₂ p₂ r₂ =>
        h _ _ _ _ q1 q2 X E W₂ φ₂ s₂ _ S p₂.f _ _ (r₁.ag p₂.ag) r₂ _ fun tk => kk _ _ _ ⟨p₂.f.toks tk, p₁.ag.trans p₂.ag, (p₁.trans p₂).vl⟩
noncomputable def T.cmp (op : CmpOp) (a b : Expr) (p : Pos) (hb : plainX b = true) (c : St → Option (Bool × St)) (h : Ok c (CmG G d fi op a b)) : T G d fi :=
  have eo : Ok (fun σ => bd (c σ) fun t σ => pu (O.val (.bool t)) σ) (EvG G d fi (.Compare a [op] [b] p)) :=
    h.bd (R := fun t ρ o ρ' => o = .val (.bool t) ∧ ρ = ρ') (fun t => .pu fun _ => ⟨rfl, rfl⟩) fun _ t _ _ _ h q => by
      obtain ⟨rfl, rfl⟩ := q
      exact fun X E W φ s e S F Q k => wpAny_Compare1 (h X E W φ s e S F Q fun W' φ' s' p' => k _ _ _ _ p' (.val rfl)) (noMark hb _)
  ⟨.Compare a [op] [b] p, _, _, c, rfl, eo, eo.mono fun _ _ _ h => h.pk, h.mono fun ρ t ρ' h X E W φ s e S F Q k => wpAny_isTrue_Compare1 (h X E W φ s e S F _ fun W' φ' s' p' => wpAny_truthy_bool (k _ _ _ p')) (noMark hb _)⟩
noncomputable def eCmp (op : CmpOp) (k : V → O → Option (Bool × List Prop)) (h : PrimC G d op k) (a b : T G d fi) (p : Pos) : T G d fi := .cmp op a.x b.x p b.pl (evC a b k) (evC_ok h a b)

noncomputable def V.bool? (v : V) : Option Bool := V.casesOn v Option.none some (fun _ => Option.none) (fun _ => Option.none) (fun _ => Option.none) (fun _ => Option.none)
theorem V.bool_of {v : V} {i : Bool} (e : v.bool? = some i) : v = .bool i := by cases v <;> cases e; rfl
noncomputable def O.val? (o : O) : Option V := O.casesOn o some fun _ => none
theorem O.val_of {o : O} {v : V} (e : o.val? = some v) : o = .val v := by cases o <;> cases e; rfl
noncomputable def eqV (x y : V) : Option Bool := V.casesOn x none (fun a => y.bool?.bind fun b => some (a == b)) (fun a => y.int?.bind fun b => some (a == b)) (fun a => y.str?.bind fun b => some (a == b)) (fun _ => none) (fun _ => none)
theorem eqV_ok {x y : V} {t : Bool} (e : eqV x y = some t) {C : Cx} {A : Around} {E : Value → Shared → Prop} {W : WS} {s : Shared} {x' y' : Value} (rx : VR W s.heap x x') (ry : VR W s.heap y y') (hu : A.units < cLine) (Q : Value → Shared → Prop) :
    (Q (.bool t) s → wpAny C.M A (compareOp .Eq x' y') Q E s) ∧ (Q (.bool (!t)) s → wpAny C.M A (compareOp .NotEq x' y') Q E s) := by
  cases x <;> first | cases e | skip
  · obtain ⟨b, e1, e⟩ := Option.bind_eq_some_iff.mp e
    cases e; rw [V.bool_of e1] at ry; cases rx; cases ry
    exact ⟨fun k => SeqAt.compareEq_reads (.bool _) (.bool _) rfl rfl hu k, fun k => SeqAt.compareNe_reads (.bool _) (.bool _) rfl rfl hu k⟩
  · obtain ⟨b, e1, e⟩ := Option.bind_eq_some_iff.mp e
    cases e; rw [V.int_of e1] at ry; obtain ⟨t, rfl⟩ := rx; obtain ⟨u, rfl⟩ := ry
    exact ⟨fun k => P.eq_int k, fun k => P.ne_int k⟩
  · obtain ⟨b, e1, e⟩ := Option.bind_eq_some_iff.mp e
    cases e; rw [V.str_of e1] at ry; obtain ⟨t, rfl, _⟩ := rx; obtain ⟨u, rfl, _⟩ := ry
    exact ⟨fun k => P.eq_str k, fun k => P.ne_str k⟩
theorem FS.u {X : FC} (S : FS G d X) : X.A.units + deep + 1 < cLine := by have := S.un; omega
noncomputable def kEq (x : V) (y : O) : Option (Bool × List Prop) := y.val?.bind fun y => (eqV x y).bind fun t => some (t, [])
noncomputable def kNe (x : V) (y : O) : Option (Bool × List Prop) := y.val?.bind fun y => (eqV x y).bind fun t => some (!t, [])
theorem primEq : PrimC G d .Eq kEq := by
  intro x y t ps e q X E W φ s ρ S F x' y' rx ry Q k
  obtain ⟨v, e1, e⟩ := Option.bind_eq_some_iff.mp e
  obtain ⟨u, e2, e⟩ := Option.bind_eq_some_iff.mp e
  cases e; rw [O.val_of e1] at ry
  exact (eqV_ok e2 rx ry (by have := S.u; omega) Q).1 (k s.toks)
theorem primNe : PrimC G d .NotEq kNe := by
  intro x y t ps e q X E W φ s ρ S F x' y' rx ry Q k
  obtain ⟨v, e1, e⟩ := Option.bind_eq_some_iff.mp e
  obtain ⟨u, e2, e⟩ := Option.bind_eq_some_iff.mp e
  cases e; rw [O.val_of e1] at ry
  exact (eqV_ok e2 rx ry (by have := S.u; omega) Q).2 (k s.toks)
noncomputable def eEq : T G d fi → T G d fi → Pos → T G d fi := eCmp .Eq kEq primEq
noncomputable def eNe : T G d fi → T G d fi → Pos → T G d fi := eCmp .NotEq kNe primNe
noncomputable def kOrd (f : Int → Int → Bool) (x : V) (y : O) : Option (Bool × List Prop) := y.val?.bind fun y => x.int?.bind fun i => y.int?.bind fun j => some (f i j, [])
theorem primOrd {op : CmpOp} {f : Int → Int → Bool} (h : ∀ (C : Cx) (A : Around) (E : Value → Shared → Prop) (s : Shared) (i j : Int) (t u : Tok) (Q : Value → Shared → Prop), Q (.bool (f i j)) s → wpAny C.M A (compareOp op (.int i t) (.int j u)) Q E s) : PrimC G d op (kOrd f) := by
  intro x y t ps e q X E W φ s ρ S F x' y' rx ry Q k
  obtain ⟨v, e1, e⟩ := Option.bind_eq_some_iff.mp e
  obtain ⟨i, e2, e⟩ := Option.bind_eq_some_iff.mp e
  obtain ⟨j, e3, e⟩ := Option.bind_eq_some_iff.mp e
  cases e; rw [O.val_of e1, V.int_of e3] at ry; rw [V.int_of e2] at rx
  obtain ⟨t, rfl⟩ := rx; obtain ⟨u, rfl⟩ := ry
  exact h _ _ _ _ _ _ _ _ _ (k s.toks)
noncomputable def eLt : T G d fi → T G d fi → Pos → T G d fi := eCmp .Lt (kOrd fun i j => decide (i < j)) (primOrd fun _ _ _ _ _ _ _ _ _ k => P.lt_int k)
noncomputable def eGt : T G d fi → T G d fi → Pos → T G d fi := eCmp .Gt (kOrd fun i j => decide (i > j)) (primOrd fun _ _ _ _ _ _ _ _ _ k => P.gt_int k)
end
end Mine
end

section
open PySem
set_option autoImplicit false
set_option linter.unusedVariables false
namespace Mine
open PySem.W (Looks)

noncomputable def atI {α : Type} (l : List α) (i : Int) : Option α := Int.casesOn i (fun n => l[n]?) (fun n => l.reverse[n]?)
noncomputable def atR {α : Type} (r : List α) (i : Int) : Option α := Int.casesOn i (fun n => r.reverse[n]?) (fun n => r[n]?)
theorem atR_eq {α : Type} (r : List α) (i : Int) : atR r i = atI r.reverse i := by
  cases i with
  | ofNat n => rfl
  | negSucc n => show r[n]? = r.reverse.reverse[n]?; rw [List.reverse_reverse]
noncomputable def subO (o : O) (i : Int) : Option V := O.casesOn o (fun v => V.casesOn v none (fun _ => none) (fun _ => none) (fun s => (atI s i).bind fun c => some (.str [c])) (fun l => atI l i) (fun l => atI l i)) (fun r => atR r i)
theorem atI_inv {α : Type} {l : List α} {i : Int} {v : α} (e : atI l i = some v) : ∃ k : Nat, seqIndex? i l.length = some k ∧ l[k]? = some v ∧ ((0 ≤ i ∧ k = i.toNat) ∨ (i < 0 ∧ -(l.length : Int) ≤ i ∧ k = (i + l.length).toNat)) ∧ k < l.length := by
  cases i with
  | ofNat n =>
    have e' : l[n]? = some v := e
    have hl := (List.getElem?_eq_some_iff.mp e').1
    exact ⟨n, seqIndex_of (Int.natCast_nonneg n) (Int.ofNat_lt.mpr hl), e', .inl ⟨Int.natCast_nonneg n, rfl⟩, hl⟩
  | negSucc n =>
    have e' : l.reverse[n]? = some v := e
    have hl := (List.getElem?_eq_some_iff.mp e').1
    rw [List.length_reverse] at hl
    rw [List.getElem?_reverse hl] at e'
    have hk : (Int.negSucc n + l.length).toNat = l.length - 1 - n := by omega
    exact ⟨l.length - 1 - n, by rw [← hk]; exact seqIndex_neg (by omega) (by omega), e', .inr ⟨by omega, by omega, hk.symm⟩, by omega⟩
theorem slice_plain {e : Expr} (h : plainX e = true) (o i : Value) : subscripted e false o i = operate [o, i] (getItem o i) := by
  cases e <;> first | rfl | cases h

section
variable {C : Cx} {A : Around} {E : Value → Shared → Prop} {W : WS} {s : Shared}
theorem getList {l : List V} {vs : Array Value} {n : Nat} {a : Addr} {i : Int} {t : Tok} {v : V} {Q : Value → Shared → Prop} (ho : s.heap.get? a = some (lstO vs n)) (r : VRs W s.heap l vs.toList) (hz : l.length ≤ sizeLine) (e : atI l i = some v)
    (k : ∀ v', VR W s.heap v v' → Q v' s) : wpAny C.M A (getItem (.ref a) (.int i t)) Q E s := by
  obtain ⟨j, _, h2, h3, h4⟩ := atI_inv e
  obtain ⟨v', h5, h6⟩ := r.get h2
  have hsl := sizeLine_lt
  have hs := r.size
  have h5' : vs[j]? = some v' := by rw [← Array.getElem?_toList]; exact h5
  rcases h3 with ⟨a1, rfl⟩ | ⟨a1, a2, rfl⟩
  · exact wpAny_getItem_list ⟨_, ho, rfl, _, rfl⟩ a1 (by omega) h5' (k v' h6)
  · exact wpAny_getItem_list_neg ⟨_, ho, rfl, _, rfl⟩ a1 (by rw [hs]; exact a2) (by omega) (by rw [hs]; exact h5') (k v' h6)
theorem idx_ok {o : O} {o' : Value} {i : Int} {t : Tok} {v : V} {value slice : Expr} {Q : Value → Shared → Prop} (r : BR W s.heap o o') (e : subO o i = some v) (hs : plainX slice = true) (k : ∀ v' tk, VR W s.heap v v' → Q v' { s with toks := tk }) :
    wpAny C.M A (PyProof.Rows.subscriptTail value slice o' (.int i t)) Q E s := by
  have hsl := sizeLine_lt
  cases o with
  | own r' =>
    obtain ⟨a, rfl, vs, n, h1, h2, h3⟩ := r
    exact PyProof.Rows.tail_any (T := "list") ⟨_, h1, rfl⟩ F.slot_list_getitem.lookup (getList h1 h2 (by simpa using h3) ((atR_eq r' i).symm.trans e) fun v' r => k v' s.toks r) (slice_plain hs _ _)
  | val w =>
    cases w <;> first | cases e | skip
    · rename_i z
      obtain ⟨t1, rfl, ok, hz⟩ := r
      obtain ⟨c, e0, e'⟩ := Option.bind_eq_some_iff.mp e
      cases e'
      obtain ⟨j, e1, e2, e3, e4⟩ := atI_inv e0
      refine PyProof.Rows.tail_any (T := "str") (typeIs_str s _ t1) F.slot_str_getitem.lookup (P.getItem_str (c := c) (by simp; omega) ?_ (k _ _ ?_)) (slice_plain hs _ _)
      · show (seqIndex? i (⟨z.toArray⟩ : Str).length).bind _ = _
        have : (⟨z.toArray⟩ : Str).length = z.length := by simp [Str.length]
        rw [this, e1]
        simpa using e2
      · exact ⟨_, rfl, strOk_of ok fun x hx => by simp at hx; subst hx; exact List.mem_of_getElem? e2, by show 1 ≤ sizeLine; decide⟩
    · obtain ⟨p, vs, n, rfl, _, h1, h2, h3⟩ := VR.tup r
      obtain ⟨j, e1, e2, e3, e4⟩ := atI_inv (show atI _ i = some v from e)
      obtain ⟨v', e5, e6⟩ := h3.get e2
      exact PyProof.Rows.tail_any (T := "tuple") ⟨_, h1, rfl⟩ F.slot_tuple_getitem.lookup (P.getItem_tuple h1 (by omega) (by omega) (by rw [h3.size]; exact e1) (by rw [← Array.getElem?_toList]; exact e5) (k _ s.toks e6)) (slice_plain hs _ _)
    · obtain ⟨p, vs, n, rfl, _, h1, h2, h3⟩ := VR.lst r
      exact PyProof.Rows.tail_any (T := "list") ⟨_, h1, rfl⟩ F.slot_list_getitem.lookup (getList h1 h3 h2 (show atI _ i = some v from e) fun v' r => k v' s.toks r) (slice_plain hs _ _)
end

section
variable {G : Gl} {d : Nat} {fi : FI}
noncomputable def item (f : Bool) (o : O) (y : V) (σ : St) : Option (O × St) := y.int?.bind fun i => Bool.casesOn f (rt ((subO o i).bind fun v => some (O.val v, [])) σ) (told Tk.r? (fun _ o' => (subO o i).bind (fun v => some (O.val v)) = some o') id (fun _ ρ => ρ) σ)
def ItS (o : O) (y : V) (ρ : Loc) (o' : O) (ρ' : Loc) : Prop := ∃ i v, y = .int i ∧ subO o i = some v ∧ o' = .val v ∧ ρ = ρ'
theorem item_ok {f : Bool} {o : O} {y : V} : Ok (item f o y) (ItS o y) := by
  intro σ a σ' e h
  obtain ⟨i, e1, e⟩ := Option.bind_eq_some_iff.mp e
  cases f with
  | false => exact Ok.rt (S := ItS o y) (fun a p ρ e q => by obtain ⟨v, e2, e⟩ := Option.bind_eq_some_iff.mp e; cases e; exact ⟨i, v, V.int_of e1, e2, rfl, rfl⟩) σ a σ' e h
  | true => exact Ok.told (S := ItS o y) (f := Tk.r?) (p := fun _ o' => (subO o i).bind (fun v => some (O.val v)) = some o') (r := id) (ρ := fun _ ρ => ρ) (fun b ρ q => by obtain ⟨v, e2, e⟩ := Option.bind_eq_some_iff.mp q; cases e; exact ⟨i, v, V.int_of e1, e2, rfl, rfl⟩) σ a σ' e h
noncomputable def eIdx (f : Bool) (a k : T G d fi) (p : Pos) : T G d fi :=
  .mk' (.Subscript a.x k.x p) (fun σ => bd (a.ev σ) fun x σ => bd (k.ev σ) fun y σ => item f (.val x.frz) y.frz σ) rfl
    (a.eo.bd (R := fun x ρ o ρ' => ∃ y i v, EvG G d fi k.x ρ y ρ' ∧ y.frz = .int i ∧ subO (.val x.frz) i = some v ∧ o = .val v) (fun x => k.eo.bd (fun y => item_ok (f := f) (o := .val x.frz) (y := y.frz)) fun _ y _ _ _ h q => by
      obtain ⟨i, v, e1, e2, e3, rfl⟩ := q; exact ⟨y, i, v, h, e1, e2, e3⟩) fun _ x _ _ _ h q => by
      obtain ⟨y, i, v, hk, e1, e2, rfl⟩ := q
      intro X E W φ s e S F Q kk
      refine PyProof.Rows.Subscript_ (h.v X E W φ s e S F _ fun x' W₁ φ₁ s₁ p₁ r₁ => hk.v X E W₁ φ₁ s₁ e S p₁.f _ fun y' W₂ φ₂ s₂ p₂ r₂ => ?_)
      rw [e1] at r₂
      obtain ⟨t, rfl⟩ := r₂
      exact idx_ok (show BR W₂ s₂.heap (.val x.frz) x' from r₁.ag p₂.ag) e2 k.pl fun v' tk r => kk _ _ _ _ ⟨p₂.f.toks tk, p₁.ag.trans p₂.ag, (p₁.trans p₂).vl⟩ (.val r)) fun _ => rfl
theorem Val.uniq {env : Env} {h : Heap} {x : Str} {v w : Value} (p : Val env h x v) (q : Val env h x w) : v = w := by
  rcases p with ⟨p, m, ⟨o1, es1, ep1, p1, p2, p3, p4⟩, p5⟩ | ⟨p, c1, p1, o1, p2, p3⟩ <;> rcases q with ⟨q, m', ⟨o2, es2, ep2, q1, q2, q3, q4⟩, q5⟩ | ⟨q, c2, q1, o2, q2, q3⟩
  · rw [p1] at q1; cases q1; rw [p2] at q2; cases q2
    rw [← p4, q4, q5] at p5; exact (Option.some.inj p5).symm
  · rcases q with q | q <;> rw [p] at q <;> cases q
  · rcases p with p | p <;> rw [q] at p <;> cases p
  · rw [p1] at q1; cases q1; rw [p2] at q2; cases q2; rw [p3] at q3; exact Option.some.inj (Data.cell.inj q3)
theorem still {x : Str} {i : Nat} {X : FC} {W : WS} {φ : Nat → List Addr} {s : Shared} {ρ : Loc} {o : O} {v' : Value} (F : At X W φ s ρ) (h1 : X.fi.tbl.lookup x = some i) (hk : X.env.kindOf x ≠ none) (hv : Val X.env s.heap x v') (e : ρ[i]? = some (some o)) : OR W s.heap (φ i) o v' := by
  obtain ⟨w, a, b⟩ := F.lr x i h1 o e hk
  rw [hv.uniq a]; exact b
noncomputable def eIdxV (f : Bool) (x : Str) (i : Nat) (xp : Pos) (k : T G d fi) (p : Pos) (h : fi.isVar x i = true) : T G d fi :=
  .mk' (.Subscript (.Name x xp) k.x p) (fun σ => (slot σ.ρ i).bind fun _ => bd (k.ev σ) fun y σ => (slot σ.ρ i).bind fun o => item f o y.frz σ) rfl (by
    intro σ a σ' e q
    obtain ⟨o0, e0, e⟩ := Option.bind_eq_some_iff.mp e
    obtain ⟨⟨y, σ₁⟩, e1, e⟩ := Option.bind_eq_some_iff.mp e
    obtain ⟨o, e2, e⟩ := Option.bind_eq_some_iff.mp e
    obtain ⟨q1, j, v, h1, h2, rfl, h3⟩ := item_ok _ _ _ e q
    obtain ⟨q2, hk⟩ := k.eo σ y σ₁ e1 q1
    refine ⟨q2, fun X E W φ s ef S F Q kk => PyProof.Rows.Subscript_ (load_ok S F (ef ▸ h) (slot_some e0) fun x' hx hn hv r => hk.v X E W φ s ef S F _ fun y' W₂ φ₂ s₂ p₂ r₂ => ?_)⟩
    dsimp only at h1; rw [h1] at r₂
    obtain ⟨t, rfl⟩ := r₂
    rw [← h3] at kk
    exact idx_ok (still p₂.f hx hn (p₂.vl _ _ hv) (slot_some e2)).br h2 k.pl fun v' tk r => kk _ _ _ _ ⟨p₂.f.toks tk, p₂.ag, p₂.vl⟩ (.val r)) fun _ => rfl

theorem BR.list {W : WS} {h : Heap} {o : O} {v' : Value} {l : List V} (r : BR W h o v') (e : o.frz = .lst l) : ∃ a vs n, v' = .ref a ∧ h.get? a = some (lstO vs n) ∧ l.length ≤ sizeLine ∧ VRs W h l vs.toList := by
  cases o with
  | own r' => cases e; obtain ⟨a, rfl, vs, n, h1, h2, h3⟩ := r; exact ⟨a, vs, n, rfl, h1, by simpa using h3, h2⟩
  | val v => cases (show v = .lst l from e); obtain ⟨a, vs, n, e1, _, e2, e3, e4⟩ := VR.lst r; exact ⟨a, vs, n, e1, e2, e3, e4⟩
noncomputable def nilO (o : O) : Option Bool := O.casesOn o (fun v => v.lst?.bind fun l => some l.isEmpty) (fun r => some r.isEmpty)
theorem nilO_of {o : O} {t : Bool} (e : nilO o = some t) : ∃ l, o.frz = .lst l ∧ l.isEmpty = t := by
  cases o with
  | own r => cases e; exact ⟨_, rfl, List.isEmpty_reverse⟩
  | val v => obtain ⟨l, e1, e⟩ := Option.bind_eq_some_iff.mp e; cases e; exact ⟨l, V.lst_of e1, rfl⟩
theorem nil_cmp {C : Cx} {A : Around} {E : Value → Shared → Prop} {W : WS} {s : Shared} {l : List V} {a b : Addr} {vs ws : Array Value} {n m : Nat} (h1 : s.heap.get? a = some (lstO vs n)) (r1 : vs.size = l.length) (h2 : s.heap.get? b = some (lstO ws m)) (r2 : ws.size = 0) (hu : A.units < cLine) (Q : Value → Shared → Prop) :
    (Q (.bool l.isEmpty) s → wpAny C.M A (compareOp .Eq (.ref a) (.ref b)) Q E s) ∧ (Q (.bool (!l.isEmpty)) s → wpAny C.M A (compareOp .NotEq (.ref a) (.ref b)) Q E s) := by
  cases l with
  | nil =>
    have r1 : vs.size = 0 := r1
    refine ⟨fun k => ?_, fun k => ?_⟩
    · have z := SeqAt.RcAt.lists (A := A) (s := s) (e := fun _ => true) ⟨_, h1, rfl, _, rfl⟩ ⟨_, h2, rfl, _, rfl⟩ (r1.trans r2.symm) hu (fun j j1 => by rw [r1] at j1; cases j1)
      rw [r1] at z; exact z _ _ E Q k
    · have z := SeqAt.RcNeAt.lists (A := A) (s := s) (e := fun _ => true) ⟨_, h1, rfl, _, rfl⟩ ⟨_, h2, rfl, _, rfl⟩ (r1.trans r2.symm) hu (fun j j1 => by rw [r1] at j1; cases j1)
      rw [r1] at z; exact z _ _ E Q k
  | cons v l =>
    have hne : (vs.size != ws.size) = true := by rw [r1, r2]; rfl
    exact ⟨fun k => SeqAt.RcAt.lists_lengths (A := A) (s := s) ⟨_, h1, rfl, _, rfl⟩ ⟨_, h2, rfl, _, rfl⟩ hne (by omega) _ _ E Q k, fun k => SeqAt.RcNeAt.lists_lengths (A := A) (s := s) ⟨_, h1, rfl, _, rfl⟩ ⟨_, h2, rfl, _, rfl⟩ hne (by omega) _ _ E Q k⟩
theorem nil_core (a : T G d fi) (ne : Bool) (lp : Pos) : Ok (fun σ => bd (a.pk σ) fun x σ => rt ((nilO x).bind fun t => some (t != ne, [])) σ) (CmG G d fi (Bool.casesOn ne .Eq .NotEq) a.x (.List [] lp)) :=
  a.po.bd (R := fun x ρ t ρ' => ∃ l, x.frz = .lst l ∧ t = (l.isEmpty != ne) ∧ ρ = ρ') (fun x => .rt fun t ps ρ e q => by
    obtain ⟨u, e1, e⟩ := Option.bind_eq_some_iff.mp e; cases e; obtain ⟨l, e2, rfl⟩ := nilO_of e1; exact ⟨l, e2, rfl, rfl⟩) fun _ x _ t _ h q => by
      obtain ⟨l, e2, rfl, rfl⟩ := q
      intro X E W φ s e S F Q k
      refine h X E W φ s e S F _ fun x' W' φ' s' p' r' => wpAny_List (wpAny_pure ⟨Nat.zero_le _, ?_⟩)
      obtain ⟨b, vs, n, rfl, e3, e4, e5⟩ := r'.list e2
      have hk : ∀ a o, s'.heap.get? a = some o → (s'.heap.push (lstO ([] : List Value).toArray 0)).get? a = some o := fun _ _ q => Heap.get?_push_of_some _ q
      have fin : Q (.bool (l.isEmpty != ne)) { s' with heap := s'.heap.push (lstO ([] : List Value).toArray 0) } := k _ _ _ (p'.trans (.gs p'.f (Gs.of (t := s'.toks) p'.f.f.wf hk)))
      have z := nil_cmp (C := X.C) (A := X.A) (E := E) (W := W') (s := { s' with heap := s'.heap.push (lstO ([] : List Value).toArray 0) }) (hk _ _ e3) e5.size (Heap.get?_push_size _ rfl) rfl (by have := S.u; omega) Q
      cases ne
      · exact z.1 (by simpa using fin)
      · exact z.2 (by simpa using fin)
noncomputable def eNil (ne : Bool) (a : T G d fi) (lp p : Pos) : T G d fi := .cmp _ a.x (.List [] lp) p rfl _ (nil_core a ne lp)
end
end Mine
end

section
open PySem
set_option autoImplicit false
set_option linter.unusedVariables false
namespace Mine
open PySem.W (Looks keepIn)

theorem boot_len : bootBuiltins "len" = some (.builtin "len") := by kernel_rfl
theorem boot_isinstance : bootBuiltins "isinstance" = some (.builtin "isinstance") := by kernel_rfl
theorem boot_list : bootBuiltins "list" = some (.type "list") := by kernel_rfl
theorem boot_tuple : bootBuiltins "tuple" = some (.type "tuple") := by kernel_rfl
theorem boot_range : bootBuiltins "range" = some (.type "range") := by kernel_rfl
theorem boot_reversed : bootBuiltins "reversed" = some (.type "reversed") := by kernel_rfl
noncomputable def Ty.s (t : Ty) : Str := Ty.rec "tuple" "str" "int" "bool" "list" t
theorem boot_ty (t : Ty) : bootBuiltins t.s = some (.type t.n) := by
  cases t
  · exact boot_tuple
  · show bootBuiltins "str" = some (.type "str"); kernel_rfl
  · show bootBuiltins "int" = some (.type "int"); kernel_rfl
  · show bootBuiltins "bool" = some (.type "bool"); kernel_rfl
  · exact boot_list
abbrev KeepsIt (M : Model) (h : Heap) (f : Value) : Prop := ∃ k, (k = Keeper.frame ∨ k = Keeper.machine ∨ k = Keeper.boundFrame) ∧ Looks M h (keeperOf f) k
theorem keeper_builtin (M : Model) (h : Heap) (id : String) : KeepsIt M h (.builtin id) := ⟨.machine, .inr (.inl rfl), Looks.of_pure rfl⟩
theorem keeper_type (M : Model) (h : Heap) (id : String) : KeepsIt M h (.type id) := ⟨.machine, .inr (.inl rfl), Looks.of_pure rfl⟩

section
variable {M : Model} {A : Around} {E : Value → Shared → Prop} {s : Shared} {env : Env}
theorem callW {K : PySem.W.Frag} {f : Value} {pos : Pos} {first : List Value} {xs : List Expr} {Q : Value → Shared → Prop} (hk : ∀ h, K.In h → KeepsIt M h f)
    (h : wpAny M A (spliced (plainArgs xs env)) (fun vs s₁ => K.In s₁.heap ∧ wpAny M A (call f (first ++ vs)) Q E s₁) E s) : wpAny M A (callWith pos f first (plainArgs xs env) []) Q E s := by
  refine PySem.W.callWith_of (P := K.In) (by rw [show (plainArgs xs env).any (·.1) = false by simp [plainArgs]]; rfl) hk ?_
  cases xs with
  | nil =>
    unfold evalArgs
    show wpAny _ _ (spliced [] >>= _) _ _ _
    refine wpAny_bind (wpAny_mono h (fun vs s' h' => ?_) fun _ _ x => x)
    refine wpAny_holding ?_
    exact wpAny_bind (wpAny_pure (wpAny_bind (wpAny_pure (wpAny_pure h'))))
  | cons x xs => exact PySem.Calls.evalArgs_plain h
theorem method_call {o : Expr} {m : Str} {ap p : Pos} {xs : List Expr} {Q : Value → Shared → Prop} (hs : attributeBase o m env (eval o env) = eval o env) (hp : ∀ x, x ∈ xs → plainX x = true) (hl : (ap.endLine == p.line) = true) (hn : Nat.blt xs.length 30 = true)
    (h : ∀ pl, wpAny M A (eval o env) (fun ov s₁ => wpAny M A (getMethod ov m pl) (fun fx s₂ => wpAny M A (callWith p fx.1 fx.2 (plainArgs xs env) []) Q E s₂) E s₁) E s) : wpAny M A (eval (.Call (.Attribute o m ap) xs [] p) env) Q E s := by
  rw [arm_eval_Call, hs]
  refine wpAny_bind (wpAny_mono (h (do return (← importBound o env).getD true)) (fun ov s₁ h₁ => wpAny_bind (wpAny_standAt ?_)) fun _ _ x => x)
  rw [starEach_plain hp, backTo_plain]
  unfold methodCall
  have hf : methodCallForm (xs.length + ([] : List Keyword).length) (plainArgs xs env) (backToKw p (keywordEach [] env)) = true := by
    have : xs.length < 30 := Nat.le_of_ble_eq_true hn
    simp [methodCallForm, plainArgs, keywordEach, backToKw, this]
  rw [hf]
  refine wpAny_bind (wpAny_holding ?_)
  unfold calleeOf
  rw [if_pos rfl]
  refine wpAny_mono h₁ (fun fx s₂ h₂ => ?_) fun _ _ x => x
  unfold methodCallPos
  refine wpAny_bind ?_
  rw [if_pos (by rw [beq_iff_eq.mp hl]; simp)]
  exact wpAny_pure h₂
end

section
variable {G : Gl} {d : Nat} {fi : FI}
def Prim1 (G : Gl) (d : Nat) (f : Value) (k : O → Option (O × List Prop)) : Prop :=
  ∀ x o ps, k x = some (o, ps) → All ps → ∀ (X : FC) (E : Value → Shared → Prop) (W : WS) (φ : Nat → List Addr) (s : Shared) (ρ : Loc), FS G d X → At X W φ s ρ → ∀ x', BR W s.heap x x' → ∀ Q, Aft W s Q o → wpAny X.C.M X.A (call f [x']) Q E s
noncomputable def eBi (x : Str) (f : Value) (hf : bootBuiltins x = some f) (hk : ∀ M h, KeepsIt M h f) (k : O → Option (O × List Prop)) (h : Prim1 G d f k) (a : T G d fi) (p' p : Pos) (hb : isBi G fi x = true) : T G d fi :=
  .mk' (.Call (.Name x p') [a.x] [] p) (fun σ => bd (a.pk σ) fun x σ => rt (k x) σ) rfl
    (a.po.bd (R := fun x ρ o ρ' => ∃ ps, k x = some (o, ps) ∧ All ps ∧ ρ = ρ') (fun x => .rt fun o ps ρ e q => ⟨ps, e, q, rfl⟩) fun _ x _ _ _ hx q => by
      obtain ⟨ps, q1, q2, rfl⟩ := q
      intro X E W φ s e S F Q kk
      refine PyProof.Rows.Call_ (bi_ok S F (e ▸ hb) hf ?_)
      rw [starEach_plain (xs := [a.x]) (fun y q => by cases List.mem_singleton.mp q; exact a.pl), backTo_plain]
      refine callW (K := X.C.K) (fun h _ => hk _ h) (PySem.Calls.spliced_cons (hx X E W φ s e S F _ fun x' W' φ' s' p' r' => PySem.Calls.spliced_nil ⟨p'.f.In S, ?_⟩))
      exact h _ _ _ q1 q2 X E W' φ' s' _ S p'.f _ r' _ (Aft.of p' kk)) fun _ => rfl
noncomputable def lenO (o : O) : Option Nat := O.casesOn o (fun v => V.casesOn v none (fun _ => none) (fun _ => none) (fun s => some s.length) (fun l => some l.length) (fun l => some l.length)) (fun r => some r.length)
theorem primLen : Prim1 G d (.builtin "len") fun x => (lenO x).bind fun n => some (.val (.int n), []) := by
  intro x o ps e q X E W φ s ρ S F x' r Q k
  have hsl := sizeLine_lt
  obtain ⟨n, e1, e⟩ := Option.bind_eq_some_iff.mp e
  cases e
  have lst : ∀ {l : List V} {a : Addr} {vs : Array Value} {m : Nat}, s.heap.get? a = some (lstO vs m) → VRs W s.heap l vs.toList → l.length ≤ sizeLine → l.length = n → wpAny X.C.M X.A (call (.builtin "len") [.ref a]) Q E s := fun h1 h3 h2 e => by
    have hs := h3.size
    refine Calls.call_len_list ⟨_, h1, rfl, _, rfl⟩ (by rw [hs]; omega) ?_
    rw [hs, e]; exact k.here F.f.wf ⟨_, rfl⟩
  cases x with
  | own r' => cases e1; obtain ⟨a, rfl, vs, m, h1, h2, h3⟩ := r; exact lst h1 h2 (by simpa using h3) (by simp)
  | val v =>
    cases v <;> first | cases e1 | skip
    · rename_i z
      obtain ⟨t, rfl, ok, hz⟩ := r
      have hlen : (⟨z.toArray⟩ : Str).length = z.length := by simp [Str.length]
      refine P.len_str (by rw [hlen]; omega) ?_
      rw [hlen]; exact k.here F.f.wf ⟨_, rfl⟩
    · obtain ⟨p, vs, m, rfl, _, h1, h2, h3⟩ := VR.tup r
      have hs := h3.size
      refine P.len_tuple h1 (by rw [hs]; omega) ?_
      rw [hs]; exact k.here F.f.wf ⟨_, rfl⟩
    · obtain ⟨p, vs, m, rfl, _, h1, h2, h3⟩ := VR.lst r
      exact lst h1 h3 h2 rfl
noncomputable def eLen : T G d fi → Pos → Pos → isBi G fi "len" = true → T G d fi := eBi "len" (.builtin "len") boot_len (fun M h => keeper_builtin M h _) _ primLen
theorem primListT : Prim1 G d (.type "list") fun x => x.val?.bind fun v => v.tup?.bind fun l => some (.own l.reverse, []) := by
  intro x o ps e q X E W φ s ρ S F x' r Q k
  obtain ⟨v, e1, e⟩ := Option.bind_eq_some_iff.mp e
  obtain ⟨l, e2, e⟩ := Option.bind_eq_some_iff.mp e
  cases e
  rw [O.val_of e1, V.tup_of e2] at r
  obtain ⟨p, vs, m, rfl, _, h1, h2, h3⟩ := VR.tup r
  exact call_list_seq p (T := "tuple") (.inr rfl) h1 rfl rfl (fun h' c' hk ho => k.listAt (t := s.toks) F.f.wf hk (fresh_size _) ho (by rw [List.reverse_reverse]; exact h3) (by rwa [List.length_reverse])) (by rw [h3.size]; exact h2)
noncomputable def eListT : T G d fi → Pos → Pos → isBi G fi "list" = true → T G d fi := eBi "list" (.type "list") boot_list (fun M h => keeper_type M h _) _ primListT
noncomputable def listO (o : O) : Option (List V) := O.casesOn o (fun v => v.lst?) (fun r => some r.reverse)
theorem listO_of {o : O} {l : List V} (e : listO o = some l) : o.frz = .lst l := by
  cases o with
  | own r => cases e; rfl
  | val v => exact V.lst_of e
theorem primTup : Prim1 G d (.type "tuple") fun x => (listO x).bind fun l => some (.val (.tup l), []) := by
  intro x o ps e q X E W φ s ρ S F x' r Q k
  obtain ⟨l, e1, e⟩ := Option.bind_eq_some_iff.mp e
  cases e
  obtain ⟨a, vs, n, rfl, h1, h2, h3⟩ := r.list (listO_of e1)
  refine call_tuple_list ⟨_, h1, rfl, _, rfl⟩ (fun h' hk => ?_) (by rw [h3.size]; exact h2)
  have g := Gs.of (t := s.toks) F.f.wf hk
  have k' : Aft W { s with heap := h' } Q (.val (.tup l)) := fun v' W' s' g' r => k v' W' s' ⟨g.g.trans g'.g, g'.gens, g'.os⟩ r
  exact k'.tuple (t := s.toks) (fun a q => by obtain ⟨o, e⟩ := F.f.wf a q; exact ⟨o, hk a o e⟩) (VRs.ag (g.g.ag F.f.wf) h3) h2
noncomputable def eTupL : T G d fi → Pos → Pos → isBi G fi "tuple" = true → T G d fi := eBi "tuple" (.type "tuple") boot_tuple (fun M h => keeper_type M h _) _ primTup

noncomputable def kindO (o : O) : Kd := O.casesOn o (fun v => V.casesOn v .none (fun _ => .bool) (fun _ => .int) (fun _ => .str) (fun _ => .tup) (fun _ => .list)) (fun _ => .list)
theorem isi_ok {X : FC} {W : WS} {φ : Nat → List Addr} {s : Shared} {ρ : Loc} {E : Value → Shared → Prop} {a : O} {a' : Value} {t : Ty} {Q : Value → Shared → Prop} (S : FS G d X) (F : At X W φ s ρ) (r : BR W s.heap a a') (ht : t ∈ G.ty)
    (fin : ∀ tk, Q (.bool (isiK (kindO a) t)) { s with toks := tk }) : wpAny X.C.M X.A (call (.builtin "isinstance") [a', .type t.n]) Q E s := by
  have K := F.In S
  have e0 := fun k => S.g.isi k t ht
  cases a with
  | own r' => obtain ⟨p, rfl, vs, n, h1, _⟩ := r; exact PySem.W.kia_one PySem.W.kitx_list K ⟨_, h1, rfl⟩ (e0 .list) (by simp) fin
  | val v =>
    cases v with
    | none => cases r; exact PySem.W.kia_one PySem.W.kitx_none K trivial (e0 .none) (by simp) fin
    | bool b => cases r; exact PySem.W.kia_one PySem.W.kitx_bool K trivial (e0 .bool) (by simp) fin
    | int i => obtain ⟨_, rfl⟩ := r; exact PySem.W.kia_one PySem.W.kitx_int K trivial (e0 .int) (by simp) fin
    | str z => obtain ⟨_, rfl, _⟩ := r; exact PySem.W.kia_one PySem.W.kitx_str K trivial (e0 .str) (by simp) fin
    | tup l => obtain ⟨p, vs, m, rfl, _, h1, _⟩ := VR.tup r; exact PySem.W.kia_one PySem.W.kitx_tuple K ⟨_, h1, rfl⟩ (e0 .tup) (by simp) fin
    | lst l => obtain ⟨p, vs, m, rfl, _, h1, _⟩ := VR.lst r; exact PySem.W.kia_one PySem.W.kitx_list K ⟨_, h1, rfl⟩ (e0 .list) (by simp) fin
noncomputable def eIsi (a : T G d fi) (t : Ty) (p' p'' p : Pos) (h : (isBi G fi "isinstance" && isBi G fi t.s && G.ty.contains t) = true) : T G d fi :=
  .mk' (.Call (.Name "isinstance" p') [a.x, .Name t.s p''] [] p) (fun σ => bd (a.pk σ) fun x σ => pu (.val (.bool (isiK (kindO x) t))) σ) rfl
    (a.po.bd (R := fun x ρ o ρ' => o = .val (.bool (isiK (kindO x) t)) ∧ ρ = ρ') (fun x => .pu fun _ => ⟨rfl, rfl⟩) fun _ x _ _ _ hx q => by
      obtain ⟨rfl, rfl⟩ := q
      rw [Bool.and_eq_true, Bool.and_eq_true, List.contains_iff_mem] at h
      intro X E W φ s e S F Q kk
      refine PyProof.Rows.Call_ (bi_ok S F (e ▸ h.1.1) boot_isinstance ?_)
      rw [starEach_plain (xs := [a.x, .Name t.s p'']) (fun y q => by
        rcases List.mem_cons.mp q with rfl | q
        · exact a.pl
        · cases List.mem_singleton.mp q; rfl), backTo_plain]
      refine callW (K := X.C.K) (fun h _ => keeper_builtin _ h _) (PySem.Calls.spliced_cons (hx X E W φ s e S F _ fun x' W' φ' s' p' r' => PySem.Calls.spliced_cons (bi_ok S p'.f (e ▸ h.1.2) (boot_ty t) (PySem.Calls.spliced_nil ⟨p'.f.In S, ?_⟩))))
      exact isi_ok S p'.f r' h.2 fun tk => kk _ _ _ _ ⟨p'.f.toks tk, p'.ag, p'.vl⟩ (.val rfl)) fun _ => rfl

def CallOK (G : Gl) (d : Nat) (a : Addr) (args : List V) (o : O) : Prop := ∀ (C : Cx) (A : Around) (W : WS) (s : Shared) (vals : List Value) (R : Result → Shared → Prop), GOk G C → A.handled = none → A.depth + 2 * d + 9 ≤ recursionLimit → A.units + 20 * d + deep + 90 < cLine →
  (∀ b o, C.h.get? b = some o → s.heap.get? b = some o) → s.gens = #[] → s.os = C.os → (∀ a, W a → ∃ o, s.heap.get? a = some o) → VRs W s.heap args vals → Aft W s (fun v' s' => R (.ok (.ret v')) s') o → codeAny C.M A (.call (.ref a) ⟨vals, []⟩) R s
noncomputable def eCall (x : Str) (a : Addr) (r : Rw G d fi) (p' p : Pos) (h : (fi.isGlob x && (G.fn.lookup x == some a)) = true) : T G d fi :=
  .mk' (.Call (.Name x p') r.xs [] p) (fun σ => bd (r.ev σ) fun vs σ => told Tk.r? (fun _ o => CallOK G d a vs o) id (fun _ ρ => ρ) σ) rfl
    (r.eo.bd (R := fun vs ρ o ρ' => CallOK G d a vs o ∧ ρ = ρ') (fun vs => Ok.told (f := Tk.r?) (p := fun _ o => CallOK G d a vs o) (r := id) (ρ := fun _ ρ => ρ) fun o ρ q => ⟨q, rfl⟩) fun _ vs _ o _ hs q => by
      obtain ⟨q, rfl⟩ := q
      rw [Bool.and_eq_true, beq_iff_eq] at h
      intro X E W φ s e S F Q kk
      obtain ⟨g1, g2⟩ := S.g.fn x a h.2
      refine PyProof.Rows.Call_ (glob_ok S F (e ▸ h.1) g1 ?_)
      rw [r.back]
      refine callW (K := X.C.K) (fun h hX => PySem.W.keeps_K g2 h hX) (hs.2 X E W φ s e S F _ fun vs' W' φ' s' p' r' => ⟨p'.f.In S, wpAny_call ?_⟩)
      exact q X.C X.A W' s' _ _ S.g S.hd (by have := S.dp; omega) (by have := S.un; omega) (p'.f.keep S) p'.f.gens p'.f.os p'.f.f.wf r' (Aft.of p' kk)) fun _ => rfl
end
end Mine
end

section
open PySem
set_option autoImplicit false
set_option linter.unusedVariables false
namespace Mine
open PySem.W (Looks keepIn)

def asI : Option Nat → Option Int := Option.map fun n => (n : Int)
noncomputable def cut {α : Type} (l : List α) (lo hi : Option Nat) : List α := (Option.casesOn hi l fun h => l.take h : List α).drop (Option.casesOn lo 0 id)
section
variable {M : Model} {A : Around} {E : Value → Shared → Prop} {s : Shared}
theorem wpAny_slicePartIndex {v : Value} {k : Option Int} {Q : Option Int → Shared → Prop} (hv : IsPart v k) (h : Q k s) : wpAny M A (Builtin.Slice.slicePartIndex v) Q E s := by
  cases hv with
  | none => exact wpAny_pure h
  | int i t =>
    unfold Builtin.Slice.slicePartIndex
    rw [if_neg (show ¬ ((Value.int i t == Value.none) = true) from Bool.false_ne_true)]
    refine wpAny_bind (wpAny_specialOf (T := "int") (typeIs_int s i t) F.slot_int_index.lookup ?_)
    simp only [Option.isNone_some, Bool.false_eq_true, if_false]
    exact wpAny_bind (wpAny_of_eq (a := i) rfl (wpAny_pure h))
end
theorem cut_eq {α : Type} (l : List α) (lo hi : Option Nat) : cut l lo hi = (l.drop (min (lo.getD 0) l.length)).take (min (hi.getD l.length) l.length - min (lo.getD 0) l.length) := by
  have e : ∀ a : Nat, (lo.getD 0) = a → cut l lo hi = (Option.casesOn hi l fun h => l.take h : List α).drop a := by intro a h; subst h; cases lo <;> rfl
  rw [e _ rfl]
  generalize lo.getD 0 = a
  cases hi with
  | none =>
    show l.drop a = _
    simp only [Option.getD_none, Nat.min_self]
    rw [List.take_of_length_le (by rw [List.length_drop]; omega)]
    by_cases h : a ≤ l.length
    · rw [Nat.min_eq_left h]
    · rw [Nat.min_eq_right (by omega), List.drop_of_length_le (by omega), List.drop_of_length_le (Nat.le_refl _)]
  | some b =>
    show (l.take b).drop a = _
    simp only [Option.getD_some]
    by_cases h : a ≤ l.length
    · rw [Nat.min_eq_left h, List.drop_take]
      by_cases h2 : b ≤ l.length
      · rw [Nat.min_eq_left h2]
      · rw [Nat.min_eq_right (by omega), List.take_of_length_le (by rw [List.length_drop]; omega), List.take_of_length_le (by rw [List.length_drop]; omega)]
    · have h3 : min a l.length = l.length := by omega
      rw [h3, List.drop_of_length_le (by rw [List.length_take]; omega), List.drop_of_length_le (Nat.le_refl _)]; simp
theorem slicePick_cut (items : Array Value) (lo hi : Option Nat) : slicePick items (asI lo) (asI hi) none = (cut items.toList lo hi).toArray := by
  rw [slicePick_plain, cut_eq]
  cases lo <;> cases hi <;> simp [asI, clipAt_nat]
theorem cut_length_le {α : Type} (l : List α) (lo hi : Option Nat) : (cut l lo hi).length ≤ l.length := by
  rw [cut_eq, List.length_take, List.length_drop]; omega
theorem VRs.cut {W : WS} {h : Heap} {l : List V} {l' : List Value} (r : VRs W h l l') (lo hi : Option Nat) : VRs W h (Mine.cut l lo hi) (Mine.cut l' lo hi) := by
  unfold Mine.cut
  cases hi with
  | none => exact r.drop _
  | some n => exact (r.take n).drop _
theorem str_cut (z : List Nat) (lo hi : Option Nat) : (Builtin.Str.strSliceIndices (asI lo) (asI hi) 1 z.length).filterMap (z.toArray[·]?) = Mine.cut z lo hi ∧ (Builtin.Str.strSliceIndices (asI lo) (asI hi) 1 z.length).length = (Mine.cut z lo hi).length := by
  have h : Builtin.Str.strSliceIndices (asI lo) (asI hi) 1 z.length = sliceRange (sliceBounds (asI lo) (asI hi) none z.length).1 (sliceBounds (asI lo) (asI hi) none z.length).2.1 1 := by
    cases lo <;> cases hi <;> rfl
  rw [h, sliceBounds_plain]
  simp only
  rw [sliceRange_one, pick_run, cut_eq, List.length_map, List.length_range, List.length_take, List.length_drop]
  cases lo <;> cases hi <;> simp [asI, clipAt_nat] <;> omega

def PR (x : Option Int) (v : Value) : Prop := Option.casesOn x (v = .none) fun i => ∃ t, v = .int i t
noncomputable def bds (x : Option Int) : Option Nat := Option.casesOn x none fun i => some i.toNat
noncomputable def bdo (x : Option Int) (ps : List Prop) : List Prop := Option.casesOn x ps fun i => (0 ≤ i ∧ i ≤ 1000000) :: ps
theorem bdo_all {x : Option Int} {ps : List Prop} (h : All (bdo x ps)) : All ps ∧ ∀ v, PR x v → IsPart v (asI (bds x)) ∧ ∃ q : Option (Int × Tok), v = partValue q ∧ q.map (·.1) = asI (bds x) := by
  cases x with
  | none => exact ⟨h, fun v r => by cases r; exact ⟨.none, none, rfl, rfl⟩⟩
  | some i =>
    have h1 : 0 ≤ i := h.1.1
    have e : asI (bds (some i)) = some i := congrArg some (Int.toNat_of_nonneg h1)
    refine ⟨h.2, fun v r => ?_⟩
    obtain ⟨t, rfl⟩ := r
    rw [e]
    exact ⟨.int i t, some (i, t), rfl, rfl⟩

section
variable {G : Gl} {d : Nat} {fi : FI}
def BdG (G : Gl) (d : Nat) (fi : FI) (x : Option Expr) (ρ : Loc) (b : Option Int) (ρ' : Loc) : Prop := ∀ (X : FC) (E : Value → Shared → Prop) (W : WS) (φ : Nat → List Addr) (s : Shared), X.fi = fi → FS G d X → At X W φ s ρ →
  ∀ Q : Value → Shared → Prop, (∀ v' W' φ' s', Pst X W s W' φ' s' ρ' → PR b v' → Q v' s') → wpAny X.C.M X.A (evalPart x X.env) Q E s
structure Bd (G : Gl) (d : Nat) (fi : FI) where
  x : Option Expr
  ev : St → Option (Option Int × St)
  eo : Ok ev (BdG G d fi x)
noncomputable def dNone : Bd G d fi := ⟨none, pu none, .pu fun _ X E W φ s e S F Q k => wpAny_pure (k _ _ _ _ (.refl F) rfl)⟩
noncomputable def dSome (a : T G d fi) : Bd G d fi := ⟨some a.x, fun σ => bd (a.ev σ) fun x σ => x.frz.int?.bind fun i => pu (some i) σ,
  a.eo.bd (R := fun x ρ b ρ' => ∃ i, x.frz = .int i ∧ b = some i ∧ ρ = ρ') (fun x σ b σ' e q => by
    obtain ⟨i, e1, e⟩ := Option.bind_eq_some_iff.mp e; cases e; exact ⟨q, i, V.int_of e1, rfl, rfl⟩) fun _ x _ _ _ h q X E W φ s e S F Q k => by
      obtain ⟨i, hx, rfl, rfl⟩ := q
      exact h.v X E W φ s e S F _ fun v' W' φ' s' p' r' => k _ _ _ _ p' (by rw [hx] at r'; exact r')⟩
noncomputable def kSlc (v : V) (lo hi : Option Int) : Option (O × List Prop) := V.casesOn v none (fun _ => none) (fun _ => none) (fun z => some (.val (.str (cut z (bds lo) (bds hi))), bdo lo (bdo hi []))) (fun l => some (.val (.tup (cut l (bds lo) (bds hi))), bdo lo (bdo hi [])))
  (fun l => some (.own (cut l (bds lo) (bds hi)).reverse, bdo lo (bdo hi [])))

theorem adjust_eq (lo hi : Option Nat) (n : Nat) : Builtin.Slice.sliceAdjust (asI lo) (asI hi) 1 (n : Int) = (((min (lo.getD 0) n : Nat) : Int), ((min (hi.getD n) n : Nat) : Int)) := by
  unfold Builtin.Slice.sliceAdjust asI
  cases lo <;> cases hi <;> simp <;> omega
theorem places_eq (a b : Nat) : Builtin.Slice.slicePlaces (a : Int) (b : Int) 1 = b - a := by
  unfold Builtin.Slice.slicePlaces
  simp only [Int.zero_lt_one, if_true, gt_iff_lt]
  split <;> omega
theorem range_pick (xs : Array Value) (a k : Nat) : ((List.range k).filterMap fun (i : Nat) => xs[((a : Int) + (i : Int) * 1).toNat]?) = (xs.toList.drop a).take k := by
  rw [← pick_run xs a k, List.filterMap_map]
  congr 1
  funext i
  have : ((a : Int) + (i : Int) * 1).toNat = a + i := by omega
  rw [this]; rfl
theorem tuple_getitem_slice (l : Addr) (items : Array Value) (n : Nat) (a : Addr) (vl vu : Value) (lo hi : Option Nat) (pl : IsPart vl (asI lo)) (pu : IsPart vu (asI hi)) (hz : items.size ≤ sizeLine) :
    Meets (Builtin.«tuple.__getitem__» ⟨[.ref l, .ref a], []⟩)
      (fun _ R s => s.heap.get? l = some (tupO items n) ∧ s.heap.IsSliceOf a vl vu .none ∧ (cut items.toList lo hi = items.toList → R (.ok (.ret (.ref l))) s) ∧
        R (.ok (.ret (.ref s.heap.objs.size))) { s with heap := s.heap.push (tupO (cut items.toList lo hi).toArray 0) }) :=
  .of_wp fun prog w A R s h => by
    obtain ⟨hl, hs, h1, h2⟩ := h
    obtain ⟨os, hos, hcs, hds⟩ := id hs
    have hTs : s.TypeIs (.ref a) "slice" := ⟨os, hos, hcs⟩
    have hT : s.TypeIs (.ref l) "tuple" := ⟨_, hl, rfl⟩
    unfold Builtin.«tuple.__getitem__»
    show wpAny _ _ (Builtin.Tuple.tupleItemsOf (.ref l) >>= _) _ _ s
    refine wpAny_bind (wpAny_tupleItemsOf hl rfl ?_)
    refine wpAny_bind (wpAny_typeOf hTs ?_)
    rw [if_pos (by decide)]
    unfold Builtin.Slice.sliceApplied Builtin.Slice.sliceFields
    refine wpAny_bind (wpAny_bind (wpAny_bind (wpAny_field hos hds (x := vl) rfl (wpAny_bind (wpAny_field hos hds (x := vu) rfl (wpAny_bind (wpAny_field hos hds (x := .none) rfl (wpAny_pure ?_))))))))
    refine wpAny_bind (wpAny_slicePartIndex .none ?_)
    rw [if_neg (by decide)]
    refine wpAny_bind (wpAny_slicePartIndex pl (wpAny_bind (wpAny_slicePartIndex pu (wpAny_bind (wpAny_pure ?_)))))
    simp only [Option.getD_none]
    rw [adjust_eq]
    refine wpAny_pure ?_
    simp only [places_eq]
    have hc : ((List.range (min (hi.getD items.size) items.size - min (lo.getD 0) items.size)).filterMap fun (k : Nat) => items[(((min (lo.getD 0) items.size : Nat) : Int) + (k : Int) * 1).toNat]?) = cut items.toList lo hi := by
      rw [range_pick, cut_eq]; simp
    have fin : wpAny (model prog w) A.in1 (do let x ← Builtin.Tuple.tupleExact ((List.range (min (hi.getD items.size) items.size - min (lo.getD 0) items.size)).filterMap fun (k : Nat) => items[(((min (lo.getD 0) items.size : Nat) : Int) + (k : Int) * 1).toNat]?).toArray; ret x)
        (fun fin s' => ∃ v, fin = .done (.ret v) ∧ R (.ok (.ret v)) s') (fun e s' => R (.error e) s') s := by
      rw [hc]
      refine wpAny_bind (wpAny_newObj_type (wpAny_pure ⟨_, rfl, h2⟩) ?_)
      show (cut items.toList lo hi).toArray.size ≤ sizeLine
      rw [List.size_toArray]
      exact Nat.le_trans (cut_length_le _ _ _) (by simpa using hz)
    refine wpAny_ite ?_
    split
    · rename_i q
      simp only [Bool.and_eq_true, beq_iff_eq] at q
      refine wpAny_bind (wpAny_bind (wpAny_typeOf hT (wpAny_pure ?_)))
      rw [if_pos (by decide)]
      refine wpAny_bind (wpAny_rule (wpAny_pure ⟨_, rfl, h1 ?_⟩))
      rw [cut_eq]
      have h0 : min (lo.getD 0) items.toList.length = 0 := by have := q.1.1; simp at this ⊢; omega
      rw [h0, List.drop_zero]
      refine List.take_of_length_le ?_
      have := q.2
      simp only [Array.length_toList] at h0 ⊢
      omega
    · exact fin

theorem slc_ok {C : Cx} {A : Around} {E : Value → Shared → Prop} {W : WS} {s : Shared} {v : V} {v' vl vu : Value} {lo hi : Option Int} {o : O} {ps : List Prop} {value : Expr} {lower upper : Option Expr} {p : Pos} {Q : Value → Shared → Prop} {sl : Addr} (wf : ∀ a, W a → ∃ o, s.heap.get? a = some o) (r : VR W s.heap v v')
    (rl : PR lo vl) (ru : PR hi vu) (e : kSlc v lo hi = some (o, ps)) (hq : All ps) (hsl : s.heap.IsSliceOf sl vl vu .none) (k : Aft W s Q o) : wpAny C.M A (PyProof.Rows.subscriptTail value (.Slice lower upper none p) v' (.ref sl)) Q E s := by
  have hss := sizeLine_lt
  have hsub : ∀ o i : Value, subscripted (.Slice lower upper none p) false o i = operate [i, o] (getItem o i) := fun _ _ => rfl
  cases v <;> first | cases e | skip
  · rename_i z
    obtain ⟨hq, b1⟩ := bdo_all hq
    obtain ⟨_, ql, rfl, ql2⟩ := b1 _ rl
    obtain ⟨_, qu, rfl, qu2⟩ := (bdo_all hq).2 _ ru
    obtain ⟨t1, rfl, ok, hz⟩ := r
    generalize bds lo = nlo at *
    generalize bds hi = nhi at *
    have hcl := cut_length_le z nlo nhi
    obtain ⟨hc1, hc2⟩ := str_cut z nlo nhi
    have hpk : slicePicked ⟨z.toArray⟩ ql qu none = Builtin.Str.strSliceIndices (asI nlo) (asI nhi) 1 z.length := by
      unfold slicePicked
      rw [ql2, qu2]; simp [Str.length]
    have hok : PyData.strOk ⟨(Mine.cut z nlo nhi).toArray⟩ = true := strOk_of ok fun c hc => by
      rw [cut_eq] at hc; exact List.mem_of_mem_drop (List.mem_of_mem_take hc)
    refine PyProof.Rows.tail_any (T := "str") (typeIs_str s _ t1) F.slot_str_getitem.lookup (wpAny_getItem_str_slice (l := ql) (u := qu) (st := none) ?_ rfl ?_) (hsub _ _)
    · obtain ⟨o, a1, a2, a3⟩ := hsl; exact ⟨o, a1, a2, a3⟩
    · unfold sliceMade
      rw [hpk]
      split
      · rename_i q
        simp only [Option.map_none, Option.getD_none, beq_self_eq_true, Bool.true_and, beq_iff_eq] at q
        rw [hc2] at q
        have hcz : Mine.cut z nlo nhi = z := by
          have q : (Mine.cut z nlo nhi).length = z.length := by simpa [Str.length] using q
          rw [cut_eq, List.length_take, List.length_drop] at q
          rw [cut_eq]
          have h0 : z.length = 0 ∨ min (nlo.getD 0) z.length = 0 := by omega
          rcases h0 with h0 | h0
          · rw [List.length_eq_zero_iff.mp h0]; simp
          · rw [h0, List.drop_zero]; exact List.take_of_length_le (by omega)
        rw [hcz] at k
        exact k.here (t := s.toks) wf ⟨_, rfl, ok, hz⟩
      · have hm : ((Builtin.Str.strSliceIndices (asI nlo) (asI nhi) 1 z.length).filterMap ((⟨z.toArray⟩ : Str).cps[·]?)) = Mine.cut z nlo nhi := hc1
        rw [hm]
        exact ⟨by simp [Str.length]; omega, k.here wf ⟨_, rfl, hok, by omega⟩⟩
  · rename_i l
    obtain ⟨hq, b1⟩ := bdo_all hq
    obtain ⟨pl, _⟩ := b1 _ rl
    obtain ⟨pu, _⟩ := (bdo_all hq).2 _ ru
    obtain ⟨ad, vs, n, rfl, hw, h1, h2, h3⟩ := VR.tup r
    generalize bds lo = nlo at *
    generalize bds hi = nhi at *
    have hcr := h3.cut nlo nhi
    have hcl := cut_length_le l nlo nhi
    refine PyProof.Rows.tail_any (T := "tuple") ⟨_, h1, rfl⟩ F.slot_tuple_getitem.lookup (getItem_meets ⟨_, h1, rfl⟩ (by decide) F.slot_tuple_getitem F.entry_tuple_getitem (F.args_tuple_getitem_2 _ _)
      (tuple_getitem_slice ad vs n sl vl vu nlo nhi pl pu (by rw [h3.size]; exact h2)) ⟨h1, hsl, fun hw' => ?_, ?_⟩) (hsub _ _)
    · refine k.here (t := s.toks) wf ⟨ad, vs, n, rfl, hw, h1, by omega, ?_⟩
      rw [hw'] at hcr; exact hcr
    · exact k.tuple (t := s.toks) wf (by simpa using hcr) (by omega)
  · rename_i l
    obtain ⟨hq, b1⟩ := bdo_all hq
    obtain ⟨pl, _⟩ := b1 _ rl
    obtain ⟨pu, _⟩ := (bdo_all hq).2 _ ru
    obtain ⟨ad, vs, n, rfl, hw, h1, h2, h3⟩ := VR.lst r
    generalize bds lo = nlo at *
    generalize bds hi = nhi at *
    have hcr := h3.cut nlo nhi
    have hcl := cut_length_le l nlo nhi
    refine PyProof.Rows.tail_any (T := "list") ⟨_, h1, rfl⟩ F.slot_list_getitem.lookup (wpAny_getItem_list_slice ⟨_, h1, rfl, _, rfl⟩ hsl pl pu .none (by simp) (k.list (t := s.toks) wf ?_ (by rw [List.length_reverse]; omega)) (by rw [h3.size]; exact h2)) (hsub _ _)
    rw [slicePick_cut, List.reverse_reverse]; simpa using hcr
noncomputable def eSlc (a : T G d fi) (lo hi : Bd G d fi) (p' p : Pos) : T G d fi :=
  .mk' (.Subscript a.x (.Slice lo.x hi.x none p') p) (fun σ => bd (a.ev σ) fun x σ => bd (lo.ev σ) fun l σ => bd (hi.ev σ) fun h σ => rt (kSlc x.frz l h) σ) rfl
    (a.eo.bd (R := fun x ρ o ρ' => ∃ l h ρ₁ ps, BdG G d fi lo.x ρ l ρ₁ ∧ BdG G d fi hi.x ρ₁ h ρ' ∧ kSlc x.frz l h = some (o, ps) ∧ All ps) (fun x => lo.eo.bd (R := fun l ρ o ρ' => ∃ h ps, BdG G d fi hi.x ρ h ρ' ∧ kSlc x.frz l h = some (o, ps) ∧ All ps)
      (fun l => hi.eo.bd (R := fun h ρ o ρ' => ∃ ps, kSlc x.frz l h = some (o, ps) ∧ All ps ∧ ρ = ρ') (fun h => .rt fun o ps ρ e q => ⟨ps, e, q, rfl⟩) fun _ h _ _ _ z q => by obtain ⟨ps, q1, q2, rfl⟩ := q; exact ⟨h, ps, z, q1, q2⟩)
      fun _ l ρ₁ _ _ z q => by obtain ⟨h, ps, q1, q2, q3⟩ := q; exact ⟨l, h, ρ₁, ps, z, q1, q2, q3⟩) fun _ x _ _ _ z q => by
      obtain ⟨l, h, ρ₁, ps, hl, hh, q1, q2⟩ := q
      intro X E W φ s e S F Q kk
      refine PyProof.Rows.Subscript_ (z.v X E W φ s e S F _ fun x' W₁ φ₁ s₁ p₁ r₁ => wpAny_Slice (hl X E W₁ φ₁ s₁ e S p₁.f _ fun l' W₂ φ₂ s₂ p₂ r₂ => hh X E W₂ φ₂ s₂ e S p₂.f _ fun h' W₃ φ₃ s₃ p₃ r₃ => wpAny_pure ?_))
      have hk : ∀ a o, s₃.heap.get? a = some o → (s₃.heap.push { cls := .type "slice", data := .fields #[l', h', .none] }).get? a = some o := fun _ _ q => Heap.get?_push_of_some _ q
      have g := Gs.of (t := s₃.toks) p₃.f.f.wf hk
      have p4 := Pst.gs p₃.f g
      exact slc_ok (s := { s₃ with heap := _ }) p4.f.f.wf (((r₁.ag p₂.ag).ag p₃.ag).ag p4.ag) r₂ r₃ q1 q2 (Heap.IsSliceOf.new ..) (Aft.of (((p₁.trans p₂).trans p₃).trans p4) kk)) fun _ => rfl
end
end Mine
end

section
open PySem
set_option autoImplicit false
set_option linter.unusedVariables false
namespace Mine
open PySem.W (Looks keepIn)

theorem rev_pick (z : List Nat) : (Builtin.Str.strSliceIndices none none (-1) z.length).filterMap (z.toArray[·]?) = z.reverse := by
  have h : Builtin.Str.strSliceIndices none none (-1) z.length = (List.range z.length).map fun (k : Nat) => z.length - 1 - k := by
    show sliceRange ((z.length : Int) - 1) (-1) (-1) = _
    unfold sliceRange
    have hc : (if ((z.length : Int) - 1) > -1 then ((z.length : Int) - 1 - -1 - -1 - 1) / (- -1) else 0).toNat = z.length := by
      have e : ((z.length : Int) - 1 - -1 - -1 - 1) / (- -1) = z.length := by
        rw [show (- -1 : Int) = 1 by decide, Int.ediv_one]; omega
      rw [e]; split <;> omega
    simp only [show ¬ ((-1 : Int) > 0) by decide, if_false, hc]
    refine List.map_congr_left fun k hk => ?_
    rw [List.mem_range] at hk
    omega
  rw [h, List.filterMap_map]
  have key : ∀ n ≤ z.length, (List.range n).filterMap ((fun x => z.toArray[x]?) ∘ fun k => z.length - 1 - k) = (z.reverse).take n := by
    intro n
    induction n with
    | zero => intro _; simp
    | succ n ih =>
      intro hn
      rw [List.range_succ, List.filterMap_append, ih (by omega), List.take_add_one]
      congr 1
      have : n < z.length := by omega
      rw [List.getElem?_reverse this]
      simp only [List.filterMap_cons, List.filterMap_nil, Function.comp, List.getElem?_toArray]
      cases z[z.length - 1 - n]? <;> rfl
  rw [key z.length (Nat.le_refl _), ← List.length_reverse, List.take_length]

section
variable {G : Gl} {d : Nat} {fi : FI}
noncomputable def eRev (a : T G d fi) (k : Nat) (p1 p2 p' p : Pos) : T G d fi :=
  .mk' (.Subscript a.x (.Slice none none (some (.UnaryOp .USub (.Constant (.int 1) k p1) p2)) p') p) (fun σ => bd (a.ev σ) fun x σ => rt (x.frz.str?.bind fun z => some (.val (.str z.reverse), [])) σ) rfl
    (a.eo.bd (R := fun x ρ o ρ' => ∃ z, x.frz = .str z ∧ o = .val (.str z.reverse) ∧ ρ = ρ') (fun x => .rt fun o ps ρ e q => by
      obtain ⟨z, e1, e⟩ := Option.bind_eq_some_iff.mp e; cases e; exact ⟨z, V.str_of e1, rfl, rfl⟩) fun _ x _ _ _ h q => by
      obtain ⟨z, hx, rfl, rfl⟩ := q
      intro X E W φ s e S F Q kk
      refine PyProof.Rows.Subscript_ (h.v X E W φ s e S F _ fun x' W' φ' s' p' r' => wpAny_Slice ?_)
      refine wpAny_pure (wpAny_pure (wpAny_UnaryOp (wpAny_Constant_int (PySem.P.neg_int ?_))))
      rw [hx] at r'
      obtain ⟨t, rfl, ok, hz⟩ := r'
      have hk : ∀ a o, s'.heap.get? a = some o → (s'.heap.push { cls := .type "slice", data := .fields #[.none, .none, .int (-1) (s'.toks + 1)] }).get? a = some o := fun _ _ q => Heap.get?_push_of_some _ q
      have p4 := Pst.gs p'.f (Gs.of (t := s'.toks + 1 + 1) p'.f.f.wf hk)
      refine PyProof.Rows.tail_any (T := "str") (ops := [_, _]) (typeIs_str _ _ t) PySem.F.slot_str_getitem.lookup (wpAny_getItem_str_slice (l := none) (u := none) (st := some (-1, s'.toks + 1)) ⟨_, Heap.get?_push_size _ rfl, rfl, rfl⟩ rfl ?_) rfl
      unfold sliceMade
      rw [if_neg (by simp)]
      have hm : (slicePicked ⟨z.toArray⟩ none none (some (-1, s'.toks + 1))).filterMap ((⟨z.toArray⟩ : Str).cps[·]?) = z.reverse := by
        have e : slicePicked ⟨z.toArray⟩ none none (some (-1, s'.toks + 1)) = Builtin.Str.strSliceIndices none none (-1) z.length := by
          unfold slicePicked; simp [Str.length]
        rw [e]; exact rev_pick z
      rw [hm]
      have hok : PyData.strOk ⟨z.reverse.toArray⟩ = true := strOk_of ok fun c hc => by simpa using hc
      exact ⟨by simp [Str.length]; omega, (Aft.of (p'.trans p4) kk).here p4.f.f.wf ⟨_, rfl, hok, by simpa using hz⟩⟩) fun _ => rfl

noncomputable def textsOf (l : List V) : Option (List (List Nat)) := @List.rec V (fun _ => Option (List (List Nat))) (some []) (fun v _ r => v.str?.bind fun s => r.bind fun t => some (s :: t)) l
noncomputable def joinS (sep : List Nat) (l : List (List Nat)) : List Nat := @List.rec (List Nat) (fun _ => List Nat) [] (fun x r t => List.casesOn r x fun _ _ => x ++ sep ++ t) l
theorem strs_are {W : WS} {h : Heap} : ∀ {l : List V} {l' : List Value} {ss : List (List Nat)}, VRs W h l l' → textsOf l = some ss → PyProof.Rows.StrsAre l' (ss.map fun z => (⟨z.toArray⟩ : Str)) ∧ ∀ z ∈ ss, PyData.strOk ⟨z.toArray⟩ = true
  | [], _, _, r, e => by cases r; cases e; exact ⟨.nil, by simp⟩
  | v :: l, _, _, r, e => by
    obtain ⟨v', r', rfl, rv, rl⟩ := VRs.inv r
    obtain ⟨z, e1, e⟩ := Option.bind_eq_some_iff.mp e
    obtain ⟨t, e2, e⟩ := Option.bind_eq_some_iff.mp e
    cases e
    rw [V.str_of e1] at rv
    obtain ⟨tk, rfl, ok, _⟩ := rv
    obtain ⟨a, b⟩ := strs_are rl e2
    exact ⟨.cons _ _ a, fun y hy => (List.mem_cons.mp hy).elim (fun e => e ▸ ok) (b y)⟩
theorem join_eq (sep : List Nat) : ∀ ss : List (List Nat), Txt.join ⟨sep.toArray⟩ (ss.map fun z => (⟨z.toArray⟩ : Str)) = ⟨(joinS sep ss).toArray⟩
  | [] => rfl
  | [x] => rfl
  | x :: y :: r => by
    have ih := join_eq sep (y :: r)
    have : Txt.join ⟨sep.toArray⟩ ((x :: y :: r).map fun z => (⟨z.toArray⟩ : Str)) = (⟨x.toArray⟩ : Str) ++ ⟨sep.toArray⟩ ++ Txt.join ⟨sep.toArray⟩ ((y :: r).map fun z => (⟨z.toArray⟩ : Str)) := by
      simp only [Txt.join, StrLaws.glued_eq_join, List.map_cons, Str.join]
    rw [this, ih, str_append, str_append]
    rfl
theorem join_mem (sep : List Nat) : ∀ ss : List (List Nat), ∀ c ∈ joinS sep ss, c ∈ sep ∨ ∃ z ∈ ss, c ∈ z
  | [], c, h => nomatch h
  | [x], c, h => .inr ⟨x, List.mem_cons_self, h⟩
  | x :: y :: r, c, h => by
    rcases List.mem_append.mp (show c ∈ x ++ sep ++ joinS sep (y :: r) from h) with h | h
    · rcases List.mem_append.mp h with h | h
      · exact .inr ⟨x, List.mem_cons_self, h⟩
      · exact .inl h
    · rcases join_mem sep (y :: r) c h with h | ⟨z, hz, hc⟩
      · exact .inl h
      · exact .inr ⟨z, List.mem_cons_of_mem _ hz, hc⟩
theorem join_len (sep : List Nat) : ∀ ss : List (List Nat), (joinS sep ss).length ≤ (ss.map List.length).sum + ss.length * sep.length
  | [] => Nat.zero_le _
  | [x] => by show x.length ≤ _; simp
  | x :: y :: r => by
    have ih := join_len sep (y :: r)
    show (x ++ sep ++ joinS sep (y :: r)).length ≤ _
    simp only [List.length_append, List.map_cons, List.sum_cons, List.length_cons] at ih ⊢
    have : (r.length + 1 + 1) * sep.length = (r.length + 1) * sep.length + sep.length := by rw [Nat.add_mul (r.length + 1) 1, Nat.one_mul]
    omega
theorem meth_str {X : FC} {E : Value → Shared → Prop} {s : Shared} {vv : Value} {pl : Sem Bool} {Q : Value × List Value → Shared → Prop} (hT : s.TypeIs vv "str") (hd : ∀ a, vv = .ref a → ∃ o, s.heap.get? a = some o ∧ o.dict = none) (h : Q (.builtin "str.join", [vv]) s) :
    wpAny X.C.M X.A (getMethod vv "join" pl) Q E s := getMethod_builtin hT PySem.F.plainAttrs_str PySem.F.slot_str_join PySem.F.type_str_join hd h
noncomputable def kJoin (x y : V) : Option (O × List Prop) := x.str?.bind fun sep => y.lst?.bind fun l => (textsOf l).bind fun ss => some (.val (.str (joinS sep ss)), [(ss.map List.length).sum + ss.length * sep.length ≤ room])
noncomputable def eJoin (x : Str) (sep : List Nat) (k : Nat) (sp : Pos) (b : T G d fi) (ap p : Pos) (ex : x = ⟨sep.toArray⟩) (h : (PyData.strOk ⟨sep.toArray⟩ && Nat.ble sep.length 1000 && (ap.endLine == p.line)) = true) : T G d fi :=
  .mk' (.Call (.Attribute (.Constant (.str x) k sp) "join" ap) [b.x] [] p) (fun σ => bd (b.ev σ) fun y σ => rt (kJoin (.str sep) y.frz) σ) rfl
    (b.eo.bd (R := fun y ρ o ρ' => ∃ ps, kJoin (.str sep) y.frz = some (o, ps) ∧ All ps ∧ ρ = ρ') (fun x => .rt fun o ps ρ e q => ⟨ps, e, q, rfl⟩) fun _ y _ _ _ hy q => by
      obtain ⟨ps, q1, q2, rfl⟩ := q
      subst ex
      rw [Bool.and_eq_true, Bool.and_eq_true] at h
      intro X E W φ s e S F Q kk
      refine method_call rfl (fun z q => by cases List.mem_singleton.mp q; exact b.pl) h.2 rfl fun pl => wpAny_Constant_str ?_
      generalize hvv : Value.str { cps := sep.toArray } s.toks = vv
      refine meth_str (by rw [← hvv]; exact typeIs_str _ _ _) (fun a q => by rw [← hvv] at q; cases q) (callW (K := X.C.K) (fun h _ => keeper_builtin _ h _) (PySem.Calls.spliced_cons (hy.v X E W φ { s with toks := s.toks + 1 } e S (F.toks _) _ fun y' W' φ' s' p' r' => PySem.Calls.spliced_nil ⟨p'.f.In S, ?_⟩)))
      subst hvv
      obtain ⟨_, z1, q1⟩ := Option.bind_eq_some_iff.mp q1
      cases z1
      obtain ⟨l, e1, q1⟩ := Option.bind_eq_some_iff.mp q1
      obtain ⟨ss, e2, q1⟩ := Option.bind_eq_some_iff.mp q1
      cases q1
      rw [V.lst_of e1] at r'
      obtain ⟨a, vs, n, rfl, _, h1, h2, h3⟩ := VR.lst r'
      obtain ⟨a1, a2⟩ := strs_are h3 e2
      have hjl := join_len sep ss
      have hq := Nat.le_trans q2.1 room_le
      refine PyProof.Rows.join_list ⟨_, h1, rfl, _, rfl⟩ a1 ?_ fun t' kk' => ?_
      · have e2 : ((ss.map fun z => (⟨z.toArray⟩ : Str)).map (·.length)) = ss.map List.length := by simp [Str.length, Function.comp]
        rw [e2, List.length_map]
        have e3 : (⟨sep.toArray⟩ : Str).length = sep.length := by simp [Str.length]
        rw [e3]; exact hq
      · rw [join_eq]
        have p2 : Pst X W s W' φ' s' _ := ⟨p'.f, p'.ag, p'.vl⟩
        refine (Aft.of p2 kk).here p'.f.f.wf (show VR W' s'.heap (.str (joinS sep ss)) _ from ⟨_, rfl, ?_, by omega⟩)
        have ok := h.1.1
        simp [PyData.strOk]
        intro c hc
        rcases join_mem sep ss c hc with h | ⟨z, hz, hcz⟩
        · simp [PyData.strOk] at ok; exact ok c h
        · have := a2 z hz; simp [PyData.strOk] at this; exact this c hcz) fun _ => rfl

noncomputable def popV (i : Nat) (σ : St) : Option (O × St) := (slot σ.ρ i).bind fun o => O.casesOn o (fun _ => none) fun r => List.casesOn r none fun v r => some (.val v, ⟨σ.ρ.set i (some (.own r)), σ.tp, σ.ob⟩)
noncomputable def ePop (x : Str) (i : Nat) (xp ap p : Pos) (h : (fi.isVar x i && (ap.endLine == p.line)) = true) : T G d fi :=
  .mk' (.Call (.Attribute (.Name x xp) "pop" ap) [] [] p) (popV i) rfl (by
    intro σ a σ' e q
    obtain ⟨o, e1, e⟩ := Option.bind_eq_some_iff.mp e
    rw [Bool.and_eq_true] at h
    cases o with
    | val v => cases e
    | own r =>
      cases r with
      | nil => cases e
      | cons v r =>
        cases e
        refine ⟨q, fun X E W φ s ef S F Q kk => method_call rfl (fun z q => by cases q) h.2 rfl fun pl => load_ok S F (ef ▸ h.1) (slot_some e1) fun x' hx hn hv rr => ?_⟩
        obtain ⟨ad, hp, rfl, vs, n, h1, h2, h3⟩ := rr
        refine getMethod_builtin (T := "list") ⟨_, h1, rfl⟩ PySem.F.plainAttrs_list PySem.F.slot_list_pop PySem.F.type_list_pop (fun a q => by cases q; exact ⟨_, h1, rfl⟩) ?_
        refine callW (K := X.C.K) (fun h _ => keeper_builtin _ h _) (PySem.Calls.spliced_nil ⟨F.In S, ?_⟩)
        have hs := h2.size
        rw [List.length_reverse] at hs
        have hz : vs.size - 1 = r.length := by rw [hs]; rfl
        rw [List.reverse_cons] at h2
        obtain ⟨v', g1, g2⟩ := h2.get (i := r.length) (v := v) (by rw [← List.length_reverse]; exact List.getElem?_concat_length)
        refine call_meets PySem.F.slot_list_pop ⟨_, h1, rfl⟩ PySem.F.entry_list_pop (PySem.F.args_list_pop_1 _) (MeetsSeq.list_pop_last ad vs n v' (by rw [hz, ← Array.getElem?_toList]; exact g1) (by rw [hs]; exact h3)) ⟨h1, ?_⟩
        have hd : (vs.eraseIdxIfInBounds (vs.size - 1)).toList = vs.toList.take r.length := by
          have : r.length + 1 = vs.toList.length := by rw [Array.length_toList]; exact hs.symm
          rw [Array.toList_eraseIdxIfInBounds, hz, List.eraseIdx_eq_dropLast this, List.dropLast_eq_take, ← this]; rfl
        have ht := h2.take r.length
        rw [show ((r.reverse ++ [v]).take r.length) = r.reverse by rw [← List.length_reverse]; exact List.take_left] at ht
        have hsb : Heap.SameBut ad s.heap (s.heap.update ad (Obj.mapSeq fun xs => xs.eraseIdxIfInBounds (vs.size - 1))) := Heap.SameBut.update ..
        obtain ⟨A, B⟩ := F.turn (x := x) (i := i) (t := s.toks) (r := r) (fun y hy => S.ti y x i hy hx) hp hsb hv (Heap.get?_update_self _ h1 rfl) (by rw [hd]; exact ht) (Nat.le_of_succ_le h3)
        refine kk _ _ _ _ ⟨A, B, fun y w hw => ?_⟩ (.val (g2.ag B))
        have hno := F.f.notOwn h1
        obtain ⟨q, m, ⟨o, es, ep, e, z⟩, hm⟩ | ⟨q, c, hc, o, e, z⟩ := hw
        · exact .inl ⟨q, m, ⟨o, es, ep, (hsb.2 _ (Ne.symm hno.1)).trans e, z⟩, hm⟩
        · exact .inr ⟨q, c, hc, o, (hsb.2 c fun e => hno.2 y (e ▸ hc)).trans e, z⟩) fun _ => rfl
end
end Mine
end

section
open PySem
set_option autoImplicit false
set_option linter.unusedVariables false
namespace Mine
open PySem.W (Looks keepIn)

structure Fre (X : FC) (W : WS) (φ : Nat → List Addr) (a : Addr) : Prop where
  pin : X.pin a = none
  w : ¬ W a
  mu : ¬ Mut X φ a
  nc : ∀ x, X.env.cells.lookup x ≠ some a
noncomputable def FC.pinned (X : FC) (a : Addr) (o : Obj) : FC := { X with pin := fun b => if b = a then some o else X.pin b, W0 := fun b => b ≠ a ∧ X.W0 b }

section
variable {G : Gl} {d : Nat} {X : FC} {W : WS} {φ : Nat → List Addr} {s : Shared} {ρ : Loc} {h' : Heap} {a : Addr} {o : Obj}
theorem Fre.of (F : At X W φ s ρ) (e : s.heap.get? a = none) : Fre X W φ a := by
  have nc : ∀ x, X.env.cells.lookup x ≠ some a := fun x m => by obtain ⟨o, _, z, _⟩ := F.f.cells x a m; rw [e] at z; cases z
  refine ⟨?_, fun q => ?_, fun m => ?_, nc⟩
  · cases q : X.pin a with
    | none => rfl
    | some o => have := F.f.pin a o q; rw [e] at this; cases this
  · obtain ⟨o, z⟩ := F.f.wf a q; rw [e] at z; cases z
  · rcases m with m | ⟨_, x, m⟩ | ⟨i, m⟩
    · obtain ⟨o, _, _, z, _⟩ := F.f.ns; rw [← m, e] at z; cases z
    · exact nc x m
    · obtain ⟨_, _, z⟩ := F.ow i a m; rw [e] at z; cases z
theorem At.move (F : At X W φ s ρ) {D : Addr → Prop} (f : ∀ b, D b → Fre X W φ b) {W' : WS} {t : Nat} (hk : ∀ b o, ¬ D b → s.heap.get? b = some o → h'.get? b = some o) (hw : ∀ b, W b → W' b) (wf : ∀ b, W' b → ∃ o, h'.get? b = some o) (nw : ∀ b o, ¬ D b → s.heap.get? b = some o → W' b → W b) :
    At X W' φ { s with heap := h', toks := t } ρ ∧ Ag W s.heap W' h' ∧ ∀ x v, Val X.env s.heap x v → Val X.env h' x v := by
  have ne : ∀ b, W b → ¬ D b := fun b q e => (f b e).w q
  have nm : ∀ b, Mut X φ b → ¬ D b := fun b q e => (f b e).mu q
  have ag : Ag W s.heap W' h' := ⟨hw, fun b q => by obtain ⟨o, e⟩ := F.f.wf b q; exact (hk b o (ne b q) e).trans e.symm⟩
  have val : ∀ x v, Val X.env s.heap x v → Val X.env h' x v := fun x v r => by
    obtain ⟨q, m, ⟨o, es, ep, e, z⟩, hm⟩ | ⟨q, c, hc, o, e, z⟩ := r
    · exact .inl ⟨q, m, ⟨o, es, ep, hk _ _ (nm _ (.inl rfl)) e, z⟩, hm⟩
    · exact .inr ⟨q, c, hc, o, hk _ _ (fun e => (f c e).nc x hc) e, z⟩
  have ow : ∀ i b, b ∈ φ i → ¬ D b := fun i b q => nm b (.inr (.inr ⟨i, q⟩))
  have np : ∀ b o, X.pin b = some o → ¬ D b := fun b o e q => by rw [(f b q).pin] at e; cases e
  refine ⟨⟨F.gens, F.os, ⟨fun b o e => hk b o (np b o e) (F.f.pin b o e), fun b q => ⟨(F.f.mu b q).1, fun w => (F.f.mu b q).2 ?_⟩, wf, fun b o e w => F.f.w0 b o e (nw b o (np b o e) (F.f.pin b o e) w), F.f.dis, ?_, fun x c q => ?_⟩, fun x i hx o ho hn => ?_, fun i b q => ?_⟩, ag, val⟩
  · have : ∃ o, s.heap.get? b = some o := by
      rcases q with q | ⟨_, x, q⟩ | ⟨i, q⟩
      · obtain ⟨o, _, _, e, _⟩ := F.f.ns; exact ⟨o, q ▸ e⟩
      · obtain ⟨o, _, e, _⟩ := F.f.cells x b q; exact ⟨o, e⟩
      · obtain ⟨_, _, e⟩ := F.ow i b q; exact ⟨_, e⟩
    obtain ⟨o, e⟩ := this
    exact nw b o (nm b q) e w
  · obtain ⟨o, es, ep, e, z⟩ := F.f.ns; exact ⟨o, es, ep, hk _ _ (nm _ (.inl rfl)) e, z⟩
  · obtain ⟨o, v, e, z⟩ := F.f.cells x c q; exact ⟨o, v, hk c o (fun e => (f c e).nc x q) e, z⟩
  · obtain ⟨v', p, r⟩ := F.lr x i hx o ho hn
    exact ⟨v', val _ _ p, r.ag ag fun b q => by obtain ⟨_, _, e⟩ := F.ow i b q; exact (hk b _ (ow i b q) e).trans e.symm⟩
  · obtain ⟨vs, n, e⟩ := F.ow i b q; exact ⟨vs, n, hk b _ (ow i b q) e⟩
theorem At.loose (F : At X W φ s ρ) (f : Fre X W φ a) {t : Nat} (hk : ∀ b o, b ≠ a → s.heap.get? b = some o → h'.get? b = some o) :
    At X W φ { s with heap := h', toks := t } ρ ∧ Ag W s.heap W h' ∧ ∀ x v, Val X.env s.heap x v → Val X.env h' x v :=
  F.move (D := (· = a)) (fun b q => q ▸ f) hk (fun _ q => q) (fun b q => by obtain ⟨o, e⟩ := F.f.wf b q; exact ⟨o, hk b o (fun z => f.w (z ▸ q)) e⟩) fun _ _ _ _ q => q
theorem At.pinned (F : At X W φ s ρ) (f : Fre X W φ a) (e : s.heap.get? a = some o) : At (X.pinned a o) W φ s ρ where
  gens := F.gens
  os := F.os
  f := { F.f with
    pin := fun b o' q => by
      dsimp only [FC.pinned] at q
      split at q
      · rename_i z; cases q; rw [z]; exact e
      · exact F.f.pin b o' q
    mu := fun b q => by
      have q : Mut X φ b := q
      have z : b ≠ a := fun z => f.mu (z ▸ q)
      exact ⟨(if_neg z).trans (F.f.mu b q).1, (F.f.mu b q).2⟩
    w0 := fun b o' q w => by
      dsimp only [FC.pinned] at q ⊢
      split at q
      · rename_i z; exact absurd (z ▸ w) f.w
      · rename_i z; exact ⟨z, F.f.w0 b o' q w⟩ }
  lr := F.lr
  ow := F.ow
theorem FC.pinned_ne {b : Addr} (h : b ≠ a) : (X.pinned a o).pin b = X.pin b := if_neg h
theorem FC.pinned_same : (X.pinned a o).pin a = some o := if_pos rfl
theorem At.unpin (F : At (X.pinned a o) W φ s ρ) (hp : X.pin a = none) (nc : ∀ x, X.env.cells.lookup x ≠ some a) : At X W φ s ρ ∧ Fre X W φ a ∧ s.heap.get? a = some o := by
  have ne : ∀ b, Mut X φ b → b ≠ a := fun b q e => by have := (F.f.mu b q).1; rw [e, FC.pinned_same] at this; cases this
  refine ⟨⟨F.gens, F.os, { F.f with pin := fun b o' q => F.f.pin b o' ?_, mu := fun b q => ⟨?_, (F.f.mu b q).2⟩, w0 := fun b o' q w => (F.f.w0 b o' ?_ w).2 }, F.lr, F.ow⟩, ⟨hp, fun w => (F.f.w0 a o FC.pinned_same w).1 rfl, fun q => ne a q rfl, nc⟩, F.f.pin a o FC.pinned_same⟩
  · rw [FC.pinned_ne fun e => by rw [e, hp] at q; cases q]; exact q
  · rw [← FC.pinned_ne (ne b q)]; exact (F.f.mu b q).1
  · rw [FC.pinned_ne fun e => by rw [e, hp] at q; cases q]; exact q
theorem FS.pinned (S : FS G d X) (hp : X.pin a = none) : FS G d (X.pinned a o) :=
  ⟨S.g, fun b o' q => by rw [FC.pinned_ne fun e => by have := S.base b o' q; rw [e, hp] at this; cases this]; exact S.base b o' q, S.hd, S.dp, S.un, S.fn, S.gl, S.bi, S.nm, S.cel, S.inj, S.ti⟩
theorem RO.unpin {r : O} {v' : Value} {h : Heap} (x : RO (X.pinned a o) W φ h r v') : RO X W φ h r v' := by
  obtain ⟨p, x, y⟩ := x
  refine ⟨p, x, fun b q => ⟨(y b q).1, (y b q).2.1, ?_⟩⟩
  have z := (y b q).2.2
  rwa [FC.pinned_ne fun e => by rw [e, FC.pinned_same] at z; cases z] at z
end

noncomputable def rangeL (a : Int) (n : Nat) : List V := @Nat.rec (fun _ => Int → List V) (fun _ => []) (fun _ f a => .int a :: f (a + 1)) n a
inductive ItR (W : WS) (h : Heap) (it : Addr) : List V → Prop
  | list {a : Addr} {vs : Array Value} {n i : Nat} {l : List V} : h.IsListIter it a i → W a → h.get? a = some (lstO vs n) → VRs W h l (vs.toList.drop i) → ItR W h it l
  | rev {a : Addr} {vs : Array Value} {n i : Nat} {l : List V} : h.IsRevIter it a ((i : Int) - 1) → W a → h.get? a = some (lstO vs n) → i ≤ vs.size → VRs W h l (vs.toList.take i).reverse → ItR W h it l
  | range {a : Int} {n : Nat} : IsRangeIter h it a n 1 → ItR W h it (rangeL a n)
  | tup {a : Addr} {vs : Array Value} {n i : Nat} {l : List V} : h.IsTupleIter it a i → W a → h.get? a = some (tupO vs n) → VRs W h l (vs.toList.drop i) → ItR W h it l
section
variable {X : FC} {W : WS} {φ : Nat → List Addr} {s : Shared} {ρ : Loc} {it : Addr} {E : Value → Shared → Prop}
theorem ItR.ag {h h' : Heap} {W' : WS} {l : List V} (I : ItR W h it l) (g : Ag W h W' h') (e : h'.get? it = h.get? it) : ItR W' h' it l := by
  cases I with
  | list hit w ha r => obtain ⟨o, a, b⟩ := hit; exact .list ⟨o, e.trans a, b⟩ (g.w _ w) ((g.k _ w).trans ha) (r.ag g)
  | rev hit w ha hi r => obtain ⟨o, a, b⟩ := hit; exact .rev ⟨o, e.trans a, b⟩ (g.w _ w) ((g.k _ w).trans ha) hi (r.ag g)
  | range hit => exact .range (e.trans hit)
  | tup hit w ha r => obtain ⟨o, a, b⟩ := hit; exact .tup ⟨o, e.trans a, b⟩ (g.w _ w) ((g.k _ w).trans ha) (r.ag g)
theorem ItR.at {h : Heap} {l : List V} (I : ItR W h it l) : ∃ o, h.get? it = some o := by
  cases I with
  | list hit w ha r => obtain ⟨o, a, b⟩ := hit; exact ⟨o, a⟩
  | rev hit w ha hi r => obtain ⟨o, a, b⟩ := hit; exact ⟨o, a⟩
  | range hit => exact ⟨_, hit⟩
  | tup hit w ha r => obtain ⟨o, a, b⟩ := hit; exact ⟨o, a⟩
theorem ItR.self {l : List V} {C : Cx} {A : Around} {Q : Value → Shared → Prop} (I : ItR W s.heap it l) (h : Q (.ref it) s) : wpAny C.M A (pyIter (.ref it)) Q E s := by
  cases I with
  | list hit _ _ _ => exact wpAny_pyIter_listiter hit h
  | rev hit _ _ _ _ => exact wpAny_pyIter_revIter hit h
  | range hit => exact wpAny_pyIter_rangeiter hit h
  | tup hit _ _ _ => exact wpAny_pyIter_tupleiter hit h
theorem ItR.next {l : List V} {Q : Option Value → Shared → Prop} (hh : X.A.handled = none) (F : At X W φ s ρ) (f : Fre X W φ it) (I : ItR W s.heap it l)
    (k : ∀ s', At X W φ s' ρ → Ag W s.heap W s'.heap → (∀ b o, b ≠ it → s.heap.get? b = some o → s'.heap.get? b = some o) → @List.casesOn V (fun _ => Prop) l (Q none s') (fun v r => ∀ v', VR W s'.heap v v' → ItR W s'.heap it r → Q (some v') s')) :
    wpAny X.C.M X.A (pyNext (.ref it)) Q E s := by
  have go : ∀ {h' : Heap} {t : Nat}, (∀ b o, b ≠ it → s.heap.get? b = some o → h'.get? b = some o) → Ag W s.heap W h' ∧ @List.casesOn V (fun _ => Prop) l (Q none { s with heap := h', toks := t }) (fun v r => ∀ v', VR W h' v v' → ItR W h' it r → Q (some v') { s with heap := h', toks := t }) := fun hk => by
    obtain ⟨A, B, _⟩ := F.loose f hk; exact ⟨B, k _ A B hk⟩
  have go' : ∀ {h' : Heap} {t : Nat}, Heap.SameBut it s.heap h' → _ := fun {h' t} hs => go (h' := h') (t := t) fun b o q e => (hs.2 b q).trans e
  cases I with
  | @list a vs n i l hit w ha r =>
    cases l with
    | nil =>
      refine wpAny_pyNext_list_end hh hit ⟨_, ha, rfl, _, rfl⟩ ?_ fun h' he' => (go (t := s.toks) fun b o q e => he' b o q e).2
      have := congrArg List.length (show vs.toList.drop i = [] from r)
      rw [List.length_drop, Array.length_toList] at this
      exact Array.getElem?_eq_none (by simp at this; omega)
    | cons v l =>
      obtain ⟨v', r', e, rv, rl⟩ := VRs.inv r
      have hv : vs[i]? = some v' := by rw [← Array.getElem?_toList, ← Nat.add_zero i, ← List.getElem?_drop, e]; rfl
      have hr : r' = vs.toList.drop (i + 1) := by rw [← List.drop_drop, e]; rfl
      refine wpAny_pyNext_list_item hit ⟨_, ha, rfl, _, rfl⟩ hv fun h' hit' hs' => ?_
      obtain ⟨g, k⟩ := go' (t := s.toks) hs'
      exact k v' (rv.ag g) (.list hit' w ((g.k _ w).trans ha) (hr ▸ rl.ag g))
  | @tup a vs n i l hit w ha r =>
    cases l with
    | nil =>
      refine wpAny_pyNext_tuple_end hh hit ⟨_, ha, rfl, _, rfl⟩ ?_ fun h' he' => (go (t := s.toks) fun b o q e => he' b o q e).2
      have := congrArg List.length (show vs.toList.drop i = [] from r)
      rw [List.length_drop, Array.length_toList] at this
      exact Array.getElem?_eq_none (by simp at this; omega)
    | cons v l =>
      obtain ⟨v', r', e, rv, rl⟩ := VRs.inv r
      have hv : vs[i]? = some v' := by rw [← Array.getElem?_toList, ← Nat.add_zero i, ← List.getElem?_drop, e]; rfl
      have hr : r' = vs.toList.drop (i + 1) := by rw [← List.drop_drop, e]; rfl
      refine wpAny_pyNext_tuple_item hit ⟨_, ha, rfl, _, rfl⟩ hv fun h' hit' hs' => ?_
      obtain ⟨g, k⟩ := go' (t := s.toks) hs'
      exact k v' (rv.ag g) (.tup hit' w ((g.k _ w).trans ha) (hr ▸ rl.ag g))
  | @rev a vs n i l hit w ha hi r =>
    cases i with
    | zero =>
      have hl : l = [] := by cases l with
        | nil => rfl
        | cons v l => obtain ⟨_, _, e, _⟩ := VRs.inv r; cases e
      subst hl
      exact wpAny_pyNext_rev_end hh (by simpa using hit) fun h' he' => (go (t := s.toks) fun b o q e => he' b o q e).2
    | succ i =>
      have hlt : i < vs.toList.length := by rw [Array.length_toList]; exact hi
      rw [List.take_succ_eq_append_getElem hlt, List.reverse_append] at r
      cases l with
      | nil => cases (show _ = [] from r)
      | cons v l =>
        obtain ⟨v', r', e, rv, rl⟩ := VRs.inv r
        cases e
        have hit1 : s.heap.IsRevIter it a (i : Int) := by have : ((i + 1 : Nat) : Int) - 1 = i := by omega
                                                          rw [this] at hit; exact hit
        refine wpAny_pyNext_rev_item hit1 ⟨_, ha, rfl, _, rfl⟩ (x := vs.toList[i]) (by simp [hlt]) fun h' hit' hs' => ?_
        obtain ⟨g, k⟩ := go' (t := s.toks) hs'
        exact k _ (rv.ag g) (.rev hit' w ((g.k _ w).trans ha) (Nat.le_of_succ_le hi) (rl.ag g))
  | @range a n hit =>
    cases n with
    | zero => exact wpAny_pyNext_range_end hh hit (by simp) fun h' he' => (go (t := s.toks) fun b o q e => he' b o q e).2
    | succ n =>
      refine wpAny_pyNext_range_item hit (by omega) fun h' hit' hs' => ?_
      obtain ⟨g, k⟩ := go' (t := s.toks + 1) hs'
      refine k _ ⟨_, rfl⟩ (.range ?_)
      have : ((n + 1 : Nat) : Int) - 1 = n := by omega
      rw [this] at hit'; exact hit'
end

def ItG (G : Gl) (d : Nat) (fi : FI) (x : Expr) (ρ : Loc) (l : List V) (ρ' : Loc) : Prop := ∀ (X : FC) (E : Value → Shared → Prop) (W : WS) (φ : Nat → List Addr) (s : Shared), X.fi = fi → FS G d X → At X W φ s ρ →
  ∀ Q : Value → Shared → Prop, (∀ it W' φ' s', Pst X W s W' φ' s' ρ' → Fre X W' φ' it → ItR W' s'.heap it l → Q (.ref it) s') → wpAny X.C.M X.A (eval x X.env) (fun v s₁ => wpAny X.C.M X.A (pyIter v) Q E s₁) E s
structure It (G : Gl) (d : Nat) (fi : FI) where
  x : Expr
  ev : St → Option (List V × St)
  pl : plainX x = true
  eo : Ok ev (ItG G d fi x)
section
variable {G : Gl} {d : Nat} {fi : FI}
theorem Pst.push {X : FC} {W W' : WS} {φ' : Nat → List Addr} {s s' : Shared} {ρ' : Loc} (p : Pst X W s W' φ' s' ρ') (o : Obj) (t : Nat) : Pst X W s W' φ' { s' with heap := s'.heap.push o, toks := t } ρ' ∧ Fre X W' φ' s'.heap.objs.size :=
  ⟨p.trans (.gs p.f (Gs.of p.f.f.wf fun _ _ q => Heap.get?_push_of_some _ q)), .of p.f (fresh_size _)⟩
noncomputable def iList (a : T G d fi) : It G d fi := ⟨a.x, fun σ => bd (a.ev σ) fun x σ => x.frz.lst?.bind fun l => pu l σ, a.pl,
  a.eo.bd (R := fun x ρ l ρ' => x.frz = .lst l ∧ ρ = ρ') (fun x σ l σ' e q => by obtain ⟨i, e1, e⟩ := Option.bind_eq_some_iff.mp e; cases e; exact ⟨q, V.lst_of e1, rfl⟩) fun _ x _ l _ h q X E W φ s e S F Q k => by
    obtain ⟨hx, rfl⟩ := q
    refine h.v X E W φ s e S F _ fun v' W' φ' s' p' r' => ?_
    rw [hx] at r'
    obtain ⟨b, vs, n, rfl, hw, h1, h2, h3⟩ := VR.lst r'
    refine wpAny_pyIter_list ⟨_, h1, rfl, _, rfl⟩ ?_
    obtain ⟨p2, f⟩ := p'.push { cls := .type "list_iterator", data := .fields #[.ref b, .int 0 0] } s'.toks
    have g : Ag W' s'.heap W' (s'.heap.push { cls := .type "list_iterator", data := .fields #[.ref b, .int 0 0] }) := (Gs.of (t := s'.toks) p'.f.f.wf fun _ _ q => Heap.get?_push_of_some _ q).g.ag p'.f.f.wf
    exact k _ _ _ _ p2 f (.list (i := 0) ⟨_, Heap.get?_push_size _ rfl, rfl, rfl⟩ hw ((g.k _ hw).trans h1) (h3.ag g))⟩
noncomputable def iTup (a : T G d fi) : It G d fi := ⟨a.x, fun σ => bd (a.ev σ) fun x σ => x.frz.tup?.bind fun l => pu l σ, a.pl,
  a.eo.bd (R := fun x ρ l ρ' => x.frz = .tup l ∧ ρ = ρ') (fun x σ l σ' e q => by obtain ⟨i, e1, e⟩ := Option.bind_eq_some_iff.mp e; cases e; exact ⟨q, V.tup_of e1, rfl⟩) fun _ x _ l _ h q X E W φ s e S F Q k => by
    obtain ⟨hx, rfl⟩ := q
    refine h.v X E W φ s e S F _ fun v' W' φ' s' p' r' => ?_
    rw [hx] at r'
    obtain ⟨b, vs, n, rfl, hw, h1, h2, h3⟩ := VR.tup r'
    refine wpAny_pyIter_tuple ⟨_, h1, rfl, _, rfl⟩ ?_
    obtain ⟨p2, f⟩ := p'.push { cls := .type "tuple_iterator", data := .fields #[.ref b, .int 0 0] } s'.toks
    have g : Ag W' s'.heap W' (s'.heap.push { cls := .type "tuple_iterator", data := .fields #[.ref b, .int 0 0] }) := (Gs.of (t := s'.toks) p'.f.f.wf fun _ _ q => Heap.get?_push_of_some _ q).g.ag p'.f.f.wf
    exact k _ _ _ _ p2 f (.tup (i := 0) ⟨_, Heap.get?_push_size _ rfl, rfl, rfl⟩ hw ((g.k _ hw).trans h1) (h3.ag g))⟩
noncomputable def iRev (a : T G d fi) (p' p : Pos) (hb : isBi G fi "reversed" = true) : It G d fi := ⟨.Call (.Name "reversed" p') [a.x] [] p, fun σ => bd (a.ev σ) fun x σ => O.casesOn x (fun v => v.lst?.bind fun l => pu l.reverse σ) (fun r => pu r σ), rfl,
  a.eo.bd (R := fun x ρ l ρ' => x.frz = .lst l.reverse ∧ ρ = ρ') (fun x σ l σ' e q => by
    cases x with
    | val v => obtain ⟨i, e1, e⟩ := Option.bind_eq_some_iff.mp e; cases e; exact ⟨q, by rw [List.reverse_reverse]; exact V.lst_of e1, rfl⟩
    | own r => cases e; exact ⟨q, rfl, rfl⟩) fun _ x _ l _ h q X E W φ s e S F Q k => by
    obtain ⟨hx, rfl⟩ := q
    refine PyProof.Rows.Call_ (bi_ok S F (e ▸ hb) boot_reversed ?_)
    rw [starEach_plain (xs := [a.x]) (fun y q => by cases List.mem_singleton.mp q; exact a.pl), backTo_plain]
    refine callW (K := X.C.K) (fun h _ => keeper_type _ h _) (PySem.Calls.spliced_cons (h.v X E W φ s e S F _ fun v' W' φ' s' p' r' => PySem.Calls.spliced_nil ⟨p'.f.In S, ?_⟩))
    rw [hx] at r'
    obtain ⟨b, vs, n, rfl, hw, h1, h2, h3⟩ := VR.lst r'
    have hit : (s'.heap.push (revObj b ((vs.size : Int) - 1))).IsRevIter s'.heap.objs.size b ((vs.size : Int) - 1) := ⟨_, Heap.get?_push_size _ rfl, rfl, rfl⟩
    refine call_reversed_list ⟨_, h1, rfl, _, rfl⟩ (wpAny_pyIter_revIter hit ?_)
    obtain ⟨p2, f⟩ := p'.push (revObj b ((vs.size : Int) - 1)) s'.toks
    have g : Ag W' s'.heap W' (s'.heap.push (revObj b ((vs.size : Int) - 1))) := (Gs.of (t := s'.toks) p'.f.f.wf fun _ _ q => Heap.get?_push_of_some _ q).g.ag p'.f.f.wf
    refine k _ _ _ _ p2 f (.rev (i := vs.size) hit hw ((g.k _ hw).trans h1) (Nat.le_refl _) ?_)
    rw [← Array.length_toList, List.take_length]
    have : ∀ {l : List V} {l' : List Value}, VRs W' (s'.heap.push (revObj b ((vs.size : Int) - 1))) l l' → VRs W' (s'.heap.push (revObj b ((vs.size : Int) - 1))) l.reverse l'.reverse := by
      intro l
      induction l with
      | nil => intro l' r; cases r; exact rfl
      | cons v l ih => intro l' r; obtain ⟨v', r', rfl, x, y⟩ := VRs.inv r; rw [List.reverse_cons, List.reverse_cons]; exact (ih y).snoc x
    have z := this (h3.ag g)
    rwa [List.reverse_reverse] at z⟩
theorem range_small {a b : Int} (ha : a.natAbs ≤ 1000000) (hb : b.natAbs ≤ 1000000) : Builtin.Range.small a b 1 = true := by
  simp only [Builtin.Range.small, Builtin.Range.rangeFitsLong, Builtin.Range.rangeSize, Bool.and_eq_true, Bool.or_eq_true, decide_eq_true_eq]
  refine ⟨⟨⟨⟨⟨?_, ?_⟩, ?_, ?_⟩, ?_, ?_⟩, ?_, ?_⟩, .inr ?_⟩ <;> (try simp) <;> (try split) <;> (try simp) <;> omega
noncomputable def rangeV (vs : List V) : Option ((Int × Int) × List Prop) := List.casesOn vs none fun v r => v.int?.bind fun a => List.casesOn r (some ((0, a), [a.natAbs ≤ 1000000])) fun u r => u.int?.bind fun b => List.casesOn r (some ((a, b), [a.natAbs ≤ 1000000 ∧ b.natAbs ≤ 1000000])) fun _ _ => none
theorem range_ok {C : Cx} {A : Around} {E : Value → Shared → Prop} {W : WS} {s : Shared} {args : List V} {vals : List Value} {x : Int × Int} {ps : List Prop} {Q : Value → Shared → Prop} (r : VRs W s.heap args vals) (e : rangeV args = some (x, ps)) (q : All ps)
    (k : ∀ t u v tk, Builtin.Range.small x.1 x.2 1 = true → Builtin.Range.rangeSize x.1 x.2 1 = (x.2 - x.1).toNat → (x.2 - x.1).toNat ≤ 2 ^ 24 →
      Q (.ref s.heap.objs.size) { s with heap := s.heap.push { cls := .type "range", data := .fields #[.int x.1 t, .int x.2 u, .int 1 v] }, toks := tk }) : wpAny C.M A (call (.type "range") vals) Q E s := by
  have hsz : ∀ a b : Int, Builtin.Range.rangeSize a b 1 = (b - a).toNat := fun a b => by simp only [Builtin.Range.rangeSize]; simp; split <;> omega
  cases args with
  | nil => cases e
  | cons v args =>
    obtain ⟨v', r', rfl, rv, rr⟩ := VRs.inv r
    obtain ⟨a, e1, e⟩ := Option.bind_eq_some_iff.mp e
    rw [V.int_of e1] at rv
    obtain ⟨t, rfl⟩ := rv
    cases args with
    | nil =>
      cases e; obtain rfl : r' = [] := rr
      have q1 : a.natAbs ≤ 1000000 := q.1
      exact call_range_1 (k _ _ _ _ (range_small (show (0 : Int).natAbs ≤ 1000000 by decide) q1) (hsz _ _) (by dsimp only; omega))
    | cons u args =>
      obtain ⟨u', r2, rfl, ru, rr2⟩ := VRs.inv rr
      obtain ⟨b, e2, e⟩ := Option.bind_eq_some_iff.mp e
      rw [V.int_of e2] at ru
      obtain ⟨t2, rfl⟩ := ru
      cases args with
      | nil =>
        cases e; obtain rfl : r2 = [] := rr2
        have q1 : a.natAbs ≤ 1000000 ∧ b.natAbs ≤ 1000000 := q.1
        exact call_range_2 (k _ _ _ _ (range_small q1.1 q1.2) (hsz _ _) (by dsimp only; omega))
      | cons _ _ => cases e
noncomputable def iRange (r : Rw G d fi) (p' p : Pos) (hb : isBi G fi "range" = true) : It G d fi := ⟨.Call (.Name "range" p') r.xs [] p, fun σ => bd (r.ev σ) fun vs σ => rt ((rangeV vs).bind fun x => some (rangeL x.1.1 (x.1.2 - x.1.1).toNat, x.2)) σ, rfl,
  r.eo.bd (R := fun vs ρ l ρ' => ∃ x ps, rangeV vs = some (x, ps) ∧ All ps ∧ l = rangeL x.1 (x.2 - x.1).toNat ∧ ρ = ρ') (fun vs => .rt fun l ps ρ e q => by
    obtain ⟨x, e1, e⟩ := Option.bind_eq_some_iff.mp e; cases e; exact ⟨x.1, x.2, e1, q, rfl, rfl⟩) fun _ vs _ l _ hs q X E W φ s e S F Q k => by
    obtain ⟨x, ps, q1, q2, rfl, rfl⟩ := q
    refine PyProof.Rows.Call_ (bi_ok S F (e ▸ hb) boot_range ?_)
    rw [r.back]
    refine callW (K := X.C.K) (fun h _ => keeper_type _ h _) (hs.2 X E W φ s e S F _ fun vs' W' φ' s' p' r' => ⟨p'.f.In S, range_ok r' q1 q2 fun t u v tk hsm hn _ => wpAny_pyIter_range (Heap.get?_push_size _ rfl) hsm ?_⟩)
    rw [hn]
    obtain ⟨p2, _⟩ := p'.push { cls := .type "range", data := .fields #[.int x.1 t, .int x.2 u, .int 1 v] } tk
    obtain ⟨p3, f⟩ := p2.push _ tk
    exact k _ _ _ _ p3 f (.range (Heap.get?_push_size _ rfl))⟩
theorem rangeL_length : ∀ (n : Nat) (a : Int), (rangeL a n).length = n
  | 0, _ => rfl
  | n + 1, a => congrArg (· + 1) (rangeL_length n (a + 1))
theorem rangeL_items {W : WS} {h : Heap} : ∀ (n : Nat) (a : Int) (l : List Value), l.length = n → (∀ (i : Nat) (v : Value), l[i]? = some v → ∃ t, v = .int (a + (i : Int) * 1) t) → VRs W h (rangeL a n) l
  | 0, a, l, hl, _ => by cases l with | nil => exact rfl | cons _ _ => cases hl
  | n + 1, a, [], hl, _ => by cases hl
  | n + 1, a, v :: l, hl, h => by
    obtain ⟨t, rfl⟩ := h 0 v rfl
    refine VRs.cons ⟨t, by simp⟩ (rangeL_items n (a + 1) l (Nat.succ.inj hl) fun i u hu => ?_)
    obtain ⟨t', q⟩ := h (i + 1) u hu
    exact ⟨t', by rw [q]; congr 1; omega⟩
noncomputable def eListR (r : Rw G d fi) (p' p'' p2 p : Pos) (hb : (isBi G fi "list" && isBi G fi "range") = true) : T G d fi :=
  .mk' (.Call (.Name "list" p') [.Call (.Name "range" p'') r.xs [] p2] [] p) (fun σ => bd (r.ev σ) fun vs σ => rt ((rangeV vs).bind fun x => some (.own (rangeL x.1.1 (x.1.2 - x.1.1).toNat).reverse, x.2)) σ) rfl
    (r.eo.bd (R := fun vs ρ o ρ' => ∃ x ps, rangeV vs = some (x, ps) ∧ All ps ∧ o = .own (rangeL x.1 (x.2 - x.1).toNat).reverse ∧ ρ = ρ') (fun vs => .rt fun l ps ρ e q => by
      obtain ⟨x, e1, e⟩ := Option.bind_eq_some_iff.mp e; cases e; exact ⟨x.1, x.2, e1, q, rfl, rfl⟩) fun _ vs _ o _ hs q X E W φ s e S F Q k => by
      obtain ⟨x, ps, q1, q2, rfl, rfl⟩ := q
      rw [Bool.and_eq_true] at hb
      refine PyProof.Rows.Call_ (bi_ok S F (e ▸ hb.1) boot_list ?_)
      show wpAny _ X.A (callWith p (.type "list") [] (plainArgs [.Call (.Name "range" p'') r.xs [] p2] X.env) []) Q E s
      refine callW (K := X.C.K) (fun h _ => keeper_type _ h _) (PySem.Calls.spliced_cons (PyProof.Rows.Call_ (bi_ok S F (e ▸ hb.2) boot_range ?_)))
      rw [r.back]
      refine callW (K := X.C.K) (fun h _ => keeper_type _ h _) (hs.2 X E W φ s e S F _ fun vs' W' φ' s' p' r' => ⟨p'.f.In S, range_ok r' q1 q2 fun t u v tk hsm hn hlen => PySem.Calls.spliced_nil ?_⟩)
      obtain ⟨p2, _⟩ := p'.push { cls := .type "range", data := .fields #[.int x.1 t, .int x.2 u, .int 1 v] } tk
      refine ⟨p2.f.In S, call_list_range S.hd (Heap.get?_push_size _ rfl) hsm hn hlen fun h' tk' acc c' hk hget hit => ?_⟩
      refine (Aft.of p2 k).listAt (t := tk') p2.f.f.wf hk (fresh_size _) hget ?_ ?_
      · rw [List.reverse_reverse]; exact rangeL_items _ _ acc.toList (by rw [Array.length_toList]; exact hit.1) fun i v hv => hit.2 i v (by simpa using hv)
      · rw [List.length_reverse, rangeL_length]; exact Nat.le_trans hlen (by decide)) fun _ => rfl
end
end Mine
end

section
open PySem
set_option autoImplicit false
set_option linter.unusedVariables false
namespace Mine
open PySem.W (Looks keepIn)

def FlR (X : FC) (W : WS) (φ : Nat → List Addr) (h : Heap) (fl : Fl) (f : Flow) : Prop := Fl.casesOn fl (f = .next) fun o => ∃ v', f = .ret v' ∧ RO X W φ h o v'
def AfS (X : FC) (W : WS) (s : Shared) (fl : Fl) (ρ' : Loc) (Q : Flow → Shared → Prop) : Prop := ∀ f W' φ' s', At X W' φ' s' ρ' → Ag W s.heap W' s'.heap → FlR X W' φ' s'.heap fl f → Q f s'
section
variable (G : Gl) (d : Nat) (fi : FI)
def ExG (x : Stmt) (ρ : Loc) (fl : Fl) (ρ' : Loc) : Prop := ∀ (X : FC) (E : Value → Shared → Prop) (W : WS) (φ : Nat → List Addr) (s : Shared), X.fi = fi → X.cm = true → FS G d X → At X W φ s ρ →
  ∀ Q : Flow → Shared → Prop, AfS X W s fl ρ' Q → wpAny X.C.M X.A (exec x X.env) Q E s
def ExsG (xs : List Stmt) (ρ : Loc) (fl : Fl) (ρ' : Loc) : Prop := ∀ (X : FC) (E : Value → Shared → Prop) (W : WS) (φ : Nat → List Addr) (s : Shared), X.fi = fi → X.cm = true → FS G d X → At X W φ s ρ →
  ∀ Q : Flow → Shared → Prop, AfS X W s fl ρ' Q → wpAny X.C.M X.A (execs xs X.env) Q E s
def WhilOK (c : Expr) (b : List Stmt) (ρ : Loc) (fl : Fl) (ρ' : Loc) : Prop := ∀ (X : FC) (W : WS) (φ : Nat → List Addr) (s : Shared), X.fi = fi → X.cm = true → FS G d X → At X W φ s ρ →
  ∀ R : Result → Shared → Prop, AfS X W s fl ρ' (fun f s' => R (.ok f) s') → codeAny X.C.M X.A (.whileLoop c b [] X.env) R s
def ForOK (t : Expr) (b : List Stmt) (l : List V) (ρ : Loc) (fl : Fl) (ρ' : Loc) : Prop := ∀ (X : FC) (W : WS) (φ : Nat → List Addr) (s : Shared) (it : Addr), X.fi = fi → X.cm = true → FS G d X → At X W φ s ρ → Fre X W φ it → ItR W s.heap it l →
  ∀ R : Result → Shared → Prop, AfS X W s fl ρ' (fun f s' => R (.ok f) s') → codeAny X.C.M X.A (.forLoop t (.ref it) b [] X.env) R s
end
structure SS (G : Gl) (d : Nat) (fi : FI) where
  x : Stmt
  ex : St → Option (Fl × St)
  eo : Ok ex (ExG G d fi x)
structure SL (G : Gl) (d : Nat) (fi : FI) where
  xs : List Stmt
  ex : St → Option (Fl × St)
  eo : Ok ex (ExsG G d fi xs)

theorem noSwap {x : Expr} (h : isComp x = false) (t : Option Expr) (n : Nat) (env : Env) : swapsWith x t n env = pure false := by
  cases x <;> first | rfl | cases h
theorem noSet {x : Expr} (h : plainX x = true) (env : Env) (v : Value) : foldedSetIterable x env v = pure v := by
  cases x <;> first | rfl | cases h

section
variable {G : Gl} {d : Nat} {fi : FI}
noncomputable def lNil : SL G d fi := ⟨[], pu .next, .pu fun ρ X E W φ s e c S F Q k => wpAny_execs_nil (k _ _ _ _ F (.refl ..) rfl)⟩
noncomputable def lCons (a : SS G d fi) (b : SL G d fi) : SL G d fi := ⟨a.x :: b.xs, fun σ => bd (a.ex σ) fun fl σ => Fl.casesOn fl (b.ex σ) fun o => pu (.ret o) σ,
  a.eo.bd (R := fun f ρ fl ρ' => Fl.casesOn (motive := fun _ => Prop) f (ExsG G d fi b.xs ρ fl ρ') fun o => fl = .ret o ∧ ρ = ρ') (fun f => by
    cases f with
    | next => exact b.eo
    | ret o => exact .pu fun _ => ⟨rfl, rfl⟩) fun ρ f ρ₁ fl ρ' h q X E W φ s e c S F Q k => wpAny_execs_cons (h X E W φ s e c S F _ fun f' W' φ' s' A B C => by
    cases f with
    | next => cases C; exact q X E W' φ' s' e c S A Q fun g W2 φ2 s2 A2 B2 C2 => k _ _ _ _ A2 (B.trans B2) C2
    | ret o =>
      obtain ⟨rfl, rfl⟩ := q
      obtain ⟨v', rfl, r⟩ := C
      exact k _ _ _ _ A B ⟨v', rfl, r⟩)⟩

noncomputable def sExpr (a : T G d fi) (p : Pos) (hc : isComp a.x = false) : SS G d fi := ⟨.Expr a.x p, fun σ => bd (a.ev σ) fun _ σ => pu .next σ,
  a.eo.bd (R := fun _ ρ fl ρ' => fl = .next ∧ ρ = ρ') (fun _ => .pu fun _ => ⟨rfl, rfl⟩) fun _ _ _ _ _ h q X E W φ s e c S F Q k => by
    obtain ⟨rfl, rfl⟩ := q
    exact wpAny_Expr_any (h X E W φ s e S F _ fun v' W' φ' s' p' r' => k _ _ _ _ p'.f p'.ag rfl) (by unfold interactive; rw [S.fn]; rfl) (noSwap hc _ _ _)⟩
noncomputable def setL (i : Nat) (o : O) (σ : St) : Option (Fl × St) := some (.next, ⟨σ.ρ.set i (some o), σ.tp, σ.ob⟩)
theorem Ok.setL {i : Nat} {o : O} {S : Loc → Fl → Loc → Prop} (k : ∀ ρ, S ρ .next (ρ.set i (some o))) : Ok (setL i o) S := fun σ a σ' e h => by cases e; exact ⟨h, k _⟩
noncomputable def sAsg (x : Str) (i : Nat) (a : T G d fi) (p' p : Pos) (h : (fi.isOwn x i && !isComp a.x) = true) : SS G d fi := ⟨.Assign [.Name x p'] a.x p, fun σ => bd (a.ev σ) fun o σ => setL i o σ,
  a.eo.bd (R := fun o ρ fl ρ' => fl = .next ∧ ρ' = ρ.set i (some o)) (fun _ => .setL fun _ => ⟨rfl, rfl⟩) fun _ _ _ _ _ ha q X E W φ s e c S F Q k => by
    obtain ⟨rfl, rfl⟩ := q
    rw [Bool.and_eq_true, Bool.not_eq_true'] at h
    exact wpAny_Assign_Name (ha X E W φ s e S F _ fun v' W' φ' s' p' r' => store_ok S (.inr c) p'.f r' (e ▸ h.1) fun φ2 s2 A B => k _ _ _ _ A (p'.ag.trans B) rfl) (noSwap h.2 _ _ _)⟩
noncomputable def setN (is : List (Str × Nat × Pos)) (vs : List V) (ρ : Loc) : Option Loc := @List.rec (Str × Nat × Pos) (fun _ => List V → Loc → Option Loc) (fun vs ρ => List.casesOn vs (some ρ) fun _ _ => none) (fun i _ f vs ρ => List.casesOn vs none fun v vs => f vs (ρ.set i.2.1 (some (.val v)))) is vs ρ
abbrev nmX (is : List (Str × Nat × Pos)) : List Expr := is.map fun i => .Name i.1 i.2.2
theorem setN_ok {X : FC} {E : Value → Shared → Prop} (S : FS G d X) (c : X.cm = true) : ∀ {is : List (Str × Nat × Pos)} {vs : List V} {vs' : List Value} {ρ ρ' : Loc} {W : WS} {φ : Nat → List Addr} {s : Shared} {Q : Unit → Shared → Prop}, (is.all fun i => X.fi.isOwn i.1 i.2.1) = true → At X W φ s ρ → VRs W s.heap vs vs' → setN is vs ρ = some ρ' →
    (∀ φ' s', At X W φ' s' ρ' → Ag W s.heap W s'.heap → Q () s') → wpAny X.C.M X.A (assignInOrder ((assignEach (nmX is) X.env).map (·.2)) vs') Q E s
  | [], [], _, ρ, ρ', W, φ, s, Q, h, F, r, e, k => by cases r; cases e; exact wpAny_pure (k _ _ F (.refl ..))
  | [], _ :: _, _, ρ, ρ', W, φ, s, Q, h, F, r, e, k => by cases e
  | _ :: _, [], _, ρ, ρ', W, φ, s, Q, h, F, r, e, k => by cases e
  | i :: is, v :: vs, _, ρ, ρ', W, φ, s, Q, h, F, r, e, k => by
    obtain ⟨v', r', rfl, rv, rr⟩ := VRs.inv r
    rw [List.all_cons, Bool.and_eq_true] at h
    show wpAny _ X.A (do holding r' (assign (.Name i.1 i.2.2) X.env v'); assignInOrder ((assignEach (nmX is) X.env).map (·.2)) r') Q E s
    exact wpAny_bind (wpAny_holding (wpAny_assign_Name (store_ok S (.inr c) F (.val rv) h.1 fun φ' s' A B => setN_ok S c h.2 A (rr.ag B) e fun φ2 s2 A2 B2 => k _ _ A2 (B.trans B2))))
theorem setN_len : ∀ {is : List (Str × Nat × Pos)} {vs : List V} {ρ ρ' : Loc}, setN is vs ρ = some ρ' → is.length = vs.length
  | [], [], _, _, _ => rfl
  | [], _ :: _, _, _, e => nomatch e
  | _ :: _, [], _, _, e => nomatch e
  | _ :: _, _ :: vs, _, _, e => congrArg (· + 1) (setN_len (vs := vs) e)
theorem nmX_each (env : Env) : ∀ is : List (Str × Nat × Pos), (assignEach (nmX is) env).length = is.length ∧ (assignEach (nmX is) env).findIdx? (·.1) = none
  | [] => ⟨rfl, rfl⟩
  | i :: is => by
    have e : assignEach (nmX (i :: is)) env = (false, assign (.Name i.1 i.2.2) env) :: assignEach (nmX is) env := rfl
    rw [e, List.findIdx?_cons, (nmX_each env is).2]
    exact ⟨congrArg (· + 1) (nmX_each env is).1, rfl⟩
noncomputable def sUnp (is : List (Str × Nat × Pos)) (a : T G d fi) (k0 : Nat) (p' p : Pos) (h : ((is.all fun i => fi.isOwn i.1 i.2.1) && !isComp a.x) = true) (hw : ∀ env, swappedStores [.Tuple (nmX is) k0 p'] a.x env = pure none) : SS G d fi :=
  ⟨.Assign [.Tuple (nmX is) k0 p'] a.x p, fun σ => bd (a.ev σ) fun o σ => o.frz.tup?.bind fun vs => (setN is vs σ.ρ).bind fun ρ => some (.next, ⟨ρ, σ.tp, σ.ob⟩),
  a.eo.bd (R := fun o ρ fl ρ' => ∃ vs, o.frz = .tup vs ∧ setN is vs ρ = some ρ' ∧ fl = .next) (fun o σ f σ' e q => by
    obtain ⟨vs, e1, e⟩ := Option.bind_eq_some_iff.mp e
    obtain ⟨ρ, e2, e⟩ := Option.bind_eq_some_iff.mp e
    cases e; exact ⟨q, vs, V.tup_of e1, e2, rfl⟩) fun _ o _ _ _ ha q X E W φ s e c S F Q k => by
    obtain ⟨vs, hx, hs, rfl⟩ := q
    rw [Bool.and_eq_true, Bool.not_eq_true'] at h
    refine wpAny_Assign_stores (ha.v X E W φ s e S F _ fun v' W' φ' s' p' r' => ?_) (by unfold swapsWithSole; exact noSwap h.2 _ _ _) (hw _)
    rw [hx] at r'
    obtain ⟨b, ws, n, rfl, _, h1, h2, h3⟩ := VR.tup r'
    obtain ⟨z1, z2⟩ := nmX_each X.env is
    refine wpAny_assign_Tuple (x1 := k0) S.hd ⟨_, h1, rfl, _, rfl⟩ (by rw [z1, h3.size, setN_len hs]) z2 fun h' he' => ?_
    have g := Gs.of (t := s'.toks) p'.f.f.wf fun b o q => he' b o (fun z => absurd (Heap.lt_size q) (by rw [z]; exact Nat.lt_irrefl _)) q
    exact setN_ok S c (e ▸ h.1) (p'.f.gs g) (h3.ag (g.g.ag p'.f.f.wf)) hs fun φ2 s2 A B => k _ _ _ _ A ((p'.ag.trans (g.g.ag p'.f.f.wf)).trans B) rfl⟩
noncomputable def sIte (f : Bool) (c : T G d fi) (a b : SL G d fi) (p : Pos) : SS G d fi := ⟨.If c.x a.xs b.xs p, fun σ => bd (c.tr σ) fun t σ => bd (dec f t σ) fun t σ => Bool.casesOn t (b.ex σ) (a.ex σ),
  c.to.bd (R := fun t ρ fl ρ' => Bool.casesOn (motive := fun _ => Prop) t (ExsG G d fi b.xs ρ fl ρ') (ExsG G d fi a.xs ρ fl ρ')) (fun t => (Ok.dec f t).bd (R := fun t ρ fl ρ' => Bool.casesOn (motive := fun _ => Prop) t (ExsG G d fi b.xs ρ fl ρ') (ExsG G d fi a.xs ρ fl ρ')) (fun t => by
    cases t
    · exact b.eo
    · exact a.eo) fun _ t _ _ _ h q => by obtain ⟨rfl, rfl⟩ := h; exact q) fun _ t _ _ _ h q X E W φ s e c S F Q k => wpAny_If (h X E W φ s e S F _ fun W' φ' s' p' => by
    cases t
    · exact q X E W' φ' s' e c S p'.f Q fun g W2 φ2 s2 A2 B2 C2 => k _ _ _ _ A2 (p'.ag.trans B2) C2
    · exact q X E W' φ' s' e c S p'.f Q fun g W2 φ2 s2 A2 B2 C2 => k _ _ _ _ A2 (p'.ag.trans B2) C2)⟩
noncomputable def sRet (a : T G d fi) (p : Pos) : SS G d fi := ⟨.Return (some a.x) p, fun σ => bd (a.ev σ) fun o σ => pu (.ret o) σ,
  a.eo.bd (R := fun o ρ fl ρ' => fl = .ret o ∧ ρ = ρ') (fun _ => .pu fun _ => ⟨rfl, rfl⟩) fun _ _ _ _ _ h q X E W φ s e c S F Q k => by
    obtain ⟨rfl, rfl⟩ := q
    exact wpAny_Return_some (h X E W φ s e S F _ fun v' W' φ' s' p' r' => k _ _ _ _ p'.f p'.ag ⟨_, rfl, r'⟩)⟩
noncomputable def sRetV (x : Str) (i : Nat) (xp p : Pos) (h : fi.isVar x i = true) : SS G d fi := ⟨.Return (some (.Name x xp)) p, fun σ => (slot σ.ρ i).bind fun o => some (.ret o, ⟨σ.ρ.set i none, σ.tp, σ.ob⟩), by
  intro σ a σ' e q
  obtain ⟨o, e1, e⟩ := Option.bind_eq_some_iff.mp e
  cases e
  refine ⟨q, fun X E W φ s ef c S F Q k => wpAny_Return_some (load_ok S F (ef ▸ h) (slot_some e1) fun v' hx hn hv r => ?_)⟩
  have F1 : At X W (upd φ i []) s (σ.ρ.set i none) := F.drop i (fun j o q w => by rwa [List.getElem?_set_ne (Ne.symm q)] at w) fun y hy o w => by
    rw [List.getElem?_set] at w
    split at w
    · split at w <;> cases w
    · rename_i q; exact absurd rfl q
  refine k _ _ _ _ F1 (.refl ..) ⟨_, rfl, φ i, r, fun b q => ?_⟩
  have hm := F.f.mu b (.inr (.inr ⟨i, q⟩))
  obtain ⟨vs, n, he⟩ := F.ow i b q
  have hno := F.f.notOwn he
  refine ⟨hm.2, fun m => ?_, hm.1⟩
  rcases m with m | ⟨_, y, m⟩ | ⟨j, m⟩
  · exact hno.1 m
  · exact hno.2 y m
  · by_cases ej : j = i
    · rw [ej, upd_same] at m; cases m
    · rw [upd_ne _ _ ej] at m; exact ej (F.f.dis j i b m q)⟩
noncomputable def sWhil (c : T G d fi) (b : SL G d fi) (p : Pos) : SS G d fi := ⟨.While c.x b.xs [] p, told Tk.l? (fun ρ x => WhilOK G d fi c.x b.xs ρ x.1 x.2) (·.1) (fun x _ => x.2),
  .told fun x ρ h X E W φ s e cm S F Q k => wpAny_While (h X W φ s e cm S F _ k)⟩
noncomputable def sFor (x : Str) (it : It G d fi) (b : SL G d fi) (p' p : Pos) : SS G d fi := ⟨.For (.Name x p') it.x b.xs [] p, fun σ => bd (it.ev σ) fun l σ => told Tk.l? (fun ρ y => ForOK G d fi (.Name x p') b.xs l ρ y.1 y.2) (·.1) (fun y _ => y.2) σ,
  it.eo.bd (R := fun l ρ fl ρ' => ForOK G d fi (.Name x p') b.xs l ρ fl ρ') (fun l => .told fun y ρ h => h) fun _ l _ _ _ h q X E W φ s e c S F Q k => wpAny_For (h X E W φ s e S F _ fun a W' φ' s' p2 f I => q X W' φ' s' a e c S p2.f f I _ fun g W3 φ3 s3 A B C => k _ _ _ _ A (p2.ag.trans B) C) (noSet it.pl _)⟩
end
end Mine
end

section
open PySem
set_option autoImplicit false
set_option linter.unusedVariables false
namespace Mine
open PySem.W (Looks keepIn)

noncomputable def ownAt (ρ : Loc) (i : Nat) : Option (List V) := (slot ρ i).bind fun o => O.casesOn o (fun _ => none) some
theorem ownAt_some {ρ : Loc} {i : Nat} {r : List V} (e : ownAt ρ i = some r) : ρ[i]? = some (some (.own r)) := by
  obtain ⟨o, e1, e⟩ := Option.bind_eq_some_iff.mp e
  cases o with
  | val v => cases e
  | own r' => cases e; exact slot_some e1
noncomputable def setR (r : List V) (i : Int) (v : V) : Option (List V) := Int.casesOn i (fun n => (r.reverse[n]?).bind fun _ => some (r.reverse.set n v).reverse) (fun n => (r[n]?).bind fun _ => some (r.set n v))
theorem rev_set (r : List V) (n : Nat) (v : V) (h : n < r.length) : (r.set n v).reverse = r.reverse.set (r.length - 1 - n) v := by
  apply List.ext_getElem?
  intro j
  by_cases hj : j < r.length
  · rw [List.getElem?_reverse (by rwa [List.length_set]), List.length_set, List.getElem?_set, List.getElem?_set, List.getElem?_reverse hj]
    by_cases e : n = r.length - 1 - j
    · rw [if_pos e, if_pos (by omega), if_pos (by omega), if_pos (by rw [List.length_reverse]; omega)]
    · rw [if_neg e, if_neg (by omega)]
  · rw [List.getElem?_eq_none (by rw [List.length_reverse, List.length_set]; omega), List.getElem?_eq_none (by rw [List.length_set, List.length_reverse]; omega)]

section
variable {G : Gl} {d : Nat} {fi : FI}
noncomputable def sApp (x : Str) (i : Nat) (a : T G d fi) (xp ap cp p : Pos) (h : (fi.isVar x i && (ap.endLine == cp.line)) = true) : SS G d fi :=
  ⟨.Expr (.Call (.Attribute (.Name x xp) "append" ap) [a.x] [] cp) p, fun σ => (ownAt σ.ρ i).bind fun _ => bd (a.ev σ) fun y σ => (ownAt σ.ρ i).bind fun r => some (.next, ⟨σ.ρ.set i (some (.own (y.frz :: r))), σ.tp, (r.length < room) :: σ.ob⟩), by
    intro σ f σ' e q
    obtain ⟨o0, e0, e⟩ := Option.bind_eq_some_iff.mp e
    obtain ⟨⟨y, σ₁⟩, e1, e⟩ := Option.bind_eq_some_iff.mp e
    obtain ⟨r, e2, e⟩ := Option.bind_eq_some_iff.mp e
    rw [Bool.and_eq_true] at h
    cases e
    obtain ⟨q2, hk⟩ := a.eo σ y σ₁ e1 q.2
    refine ⟨q2, fun X E W φ s ef c S F Q k => wpAny_Expr_any (method_call rfl (fun z q => by cases List.mem_singleton.mp q; exact a.pl) h.2 rfl fun pl => load_ok S F (ef ▸ h.1) (ownAt_some e0) fun x' hx hn hv rr => ?_) (by unfold interactive; rw [S.fn]; rfl) rfl⟩
    obtain ⟨a0, _, rfl, vs0, n0, z0, _⟩ := rr
    refine getMethod_builtin (T := "list") ⟨_, z0, rfl⟩ PySem.F.plainAttrs_list PySem.F.slot_list_append PySem.F.type_list_append (fun a q => by cases q; exact ⟨_, z0, rfl⟩) ?_
    refine callW (K := X.C.K) (fun h _ => keeper_builtin _ h _) (PySem.Calls.spliced_cons (hk.v X E W φ s ef S F _ fun y' W' φ' s' p' r' => PySem.Calls.spliced_nil ⟨p'.f.In S, ?_⟩))
    obtain ⟨ad, hp, ea, vs, n, h1, h2, h3⟩ := still p'.f hx hn (p'.vl _ _ hv) (ownAt_some e2)
    cases ea
    have hs := h2.size
    rw [List.length_reverse] at hs
    refine call_meets PySem.F.slot_list_append ⟨_, h1, rfl⟩ PySem.F.entry_list_append (PySem.F.args_list_append_2 _ _) (list_append a0 vs n _ (by rw [hs]; exact h3)) ⟨h1, ?_⟩
    have q1 : r.length < room := q.1
    have := room_le
    obtain ⟨A, B⟩ := p'.f.turn (x := x) (i := i) (t := s'.toks) (r := y.frz :: r) (h' := s'.heap.update a0 (Obj.mapSeq (·.push y'))) (fun z hz => S.ti z x i hz hx) hp (Heap.SameBut.update ..) (p'.vl _ _ hv) (Heap.get?_update_self _ h1 rfl)
      (by rw [Array.toList_push, List.reverse_cons]; exact h2.snoc r') (by rw [List.length_cons]; omega)
    exact k _ _ _ _ A (p'.ag.trans B) rfl⟩
noncomputable def sSet (x : Str) (i : Nat) (kx a : T G d fi) (xp sp p : Pos) (h : (fi.isVar x i && !isComp a.x) = true) : SS G d fi :=
  ⟨.Assign [.Subscript (.Name x xp) kx.x sp] a.x p, fun σ => bd (a.ev σ) fun y σ => (ownAt σ.ρ i).bind fun _ => bd (kx.ev σ) fun z σ => (ownAt σ.ρ i).bind fun r => z.frz.int?.bind fun j => (setR r j y.frz).bind fun r' => some (.next, ⟨σ.ρ.set i (some (.own r')), σ.tp, σ.ob⟩), by
    intro σ f σ' e q
    obtain ⟨⟨y, σ₁⟩, e1, e⟩ := Option.bind_eq_some_iff.mp e
    obtain ⟨o0, e0, e⟩ := Option.bind_eq_some_iff.mp e
    obtain ⟨⟨z, σ₂⟩, e2, e⟩ := Option.bind_eq_some_iff.mp e
    obtain ⟨r, e3, e⟩ := Option.bind_eq_some_iff.mp e
    obtain ⟨j, e4, e⟩ := Option.bind_eq_some_iff.mp e
    obtain ⟨r', e5, e⟩ := Option.bind_eq_some_iff.mp e
    rw [Bool.and_eq_true, Bool.not_eq_true'] at h
    cases e
    obtain ⟨q1, hz⟩ := kx.eo _ _ _ e2 q
    obtain ⟨q2, hy⟩ := a.eo _ _ _ e1 q1
    refine ⟨q2, fun X E W φ s ef c S F Q k => wpAny_Assign_Subscript (hy.v X E W φ s ef S F _ fun y' W1 φ1 s1 p1 r1 => load_ok S p1.f (ef ▸ h.1) (ownAt_some e0) fun x' hx hn hv rr => hz.v X E W1 φ1 s1 ef S p1.f _ fun z' W2 φ2 s2 p2 r2 => ?_) (noSwap h.2 _ _ _)⟩
    dsimp only at e4; rw [V.int_of e4] at r2
    obtain ⟨t, rfl⟩ := r2
    obtain ⟨ad, hp, rfl, vs, n, h1, h2, h3⟩ := still p2.f hx hn (p2.vl _ _ hv) (ownAt_some e3)
    have hs := h2.size
    rw [List.length_reverse] at hs
    have hsl := sizeLine_lt
    have ry := r1.ag p2.ag
    have fin : ∀ m : Nat, r'.length = r.length → r'.reverse = r.reverse.set m y.frz → Q .next { s2 with heap := s2.heap.update ad (Obj.mapSeq (·.setIfInBounds m y')) } := fun m hl hr => by
      obtain ⟨A, B⟩ := p2.f.turn (x := x) (i := i) (t := s2.toks) (r := r') (h' := s2.heap.update ad (Obj.mapSeq (·.setIfInBounds m y'))) (fun z hz => S.ti z x i hz hx) hp (Heap.SameBut.update ..) (p2.vl _ _ hv) (Heap.get?_update_self _ h1 rfl)
        (by rw [Array.toList_setIfInBounds, hr]; exact h2.set m ry) (by rw [hl]; exact h3)
      exact k _ _ _ _ A ((p1.ag.trans p2.ag).trans B) rfl
    cases j with
    | ofNat m =>
      obtain ⟨w, e6, e5⟩ := Option.bind_eq_some_iff.mp e5
      cases e5
      have hm := (List.getElem?_eq_some_iff.mp e6).1
      rw [List.length_reverse] at hm
      exact PySem.W.ki_setAt h1 (Int.natCast_nonneg m) (by show (m : Int) < _; omega) (by rw [hs]; exact Int.ofNat_lt.mpr hm) (fin m (by simp) (by rw [List.reverse_reverse]))
    | negSucc m =>
      obtain ⟨w, e6, e5⟩ := Option.bind_eq_some_iff.mp e5
      cases e5
      have hm := (List.getElem?_eq_some_iff.mp e6).1
      refine PySem.W.ki_setBack h1 (by omega) (by rw [hs]; omega) (by omega) ?_
      have he : (Int.negSucc m + (vs.size : Int)).toNat = r.length - 1 - m := by rw [hs]; omega
      rw [he]
      exact fin _ (List.length_set ..) (rev_set r m _ hm)⟩

section
variable {M : Model} {A : Around} {R : Result → Shared → Prop} {s : Shared}
theorem code_while {test : Expr} {body : List Stmt} {env : Env} {prog : Program} {w : World}
    (h : wpAny (model prog w) A (isTrue test env (eval test env)) (fun b s₂ =>
        if b then wpAny (model prog w) A (execs body env) (fun f s₃ => match f with
            | .next | .cont => codeAny (model prog w) A (.whileLoop test body [] env) R s₃
            | .brk => R (.ok .next) s₃
            | .ret v => R (.ok (.ret v)) s₃) (notedBy (model prog w) A env fun e s' => R (.error e) s') s₂
        else R (.ok .next) s₂)
        (notedBy (model prog w) A env fun e s' => R (.error e) s') s) : codeAny (model prog w) A (.whileLoop test body [] env) R s := by
  refine codeAny_of_tree ?_
  show wpAny _ A ((whileTurn test body [] env).onRaise (fun x => do noteFrame x env; theTreesLotGoes x)) _ _ s
  refine wpAny_noted ?_
  simp only [whileTurn]
  refine wpAny_bind (wpAny_mono h (fun b s₂ h₂ => ?_) fun _ _ h' => h')
  cases b with
  | false =>
    simp only [Bool.false_eq_true, if_false] at h₂ ⊢
    exact wpAny_bind (wpAny_execs_nil (wpAny_pure h₂))
  | true =>
    simp only [if_true] at h₂ ⊢
    refine wpAny_bind (wpAny_mono h₂ (fun f s₃ h₃ => ?_) fun _ _ h' => h')
    cases f with
    | next => exact wpAny_pure ⟨rfl, h₃⟩
    | cont => exact wpAny_pure ⟨rfl, h₃⟩
    | brk => exact wpAny_pure h₃
    | ret v => exact wpAny_pure h₃
theorem code_for {x : Str} {p' : Pos} {it : Value} {body : List Stmt} {env : Env} {prog : Program} {w : World}
    (h : wpAny (model prog w) A (pyNext it) (fun r s₁ => match r with
      | none => R (.ok .next) s₁
      | some v => wpAny (model prog w) A (storeName env x v) (fun _ s₂ => wpAny (model prog w) A (execs body env) (fun f s₃ => match f with
            | .next | .cont => codeAny (model prog w) A (.forLoop (.Name x p') it body [] env) R s₃
            | .brk => R (.ok .next) s₃
            | .ret v => R (.ok (.ret v)) s₃) (notedBy (model prog w) A env fun e s' => R (.error e) s') s₂) (notedBy (model prog w) A env fun e s' => R (.error e) s') s₁) (notedBy (model prog w) A env fun e s' => R (.error e) s') s) :
    codeAny (model prog w) A (.forLoop (.Name x p') it body [] env) R s := by
  refine codeAny_of_tree ?_
  show wpAny _ A ((forTurn (.Name x p') it body [] env).onRaise (fun x => do noteFrame x env; theTreesLotGoes x)) _ _ s
  refine wpAny_noted ?_
  simp only [forTurn]
  refine wpAny_bind (wpAny_standAt (wpAny_bind (wpAny_onRaise (wpAny_mono h (fun r s₁ h₁ => ?_) fun _ _ h' => wpAny_standAt h'))))
  cases r with
  | none => exact wpAny_pure ⟨rfl, codeAny_block (wpAny_execs_nil h₁)⟩
  | some v =>
    refine wpAny_bind (wpAny_pure ?_)
    refine wpAny_bind (wpAny_mono (wpAny_assign_Name h₁) (fun _ s₂ h₂ => wpAny_bind (wpAny_mono h₂ (fun f s₃ h₃ => ?_) fun _ _ h' => h')) fun _ _ h' => h')
    cases f with
    | next => exact wpAny_pure ⟨rfl, h₃⟩
    | cont => exact wpAny_pure ⟨rfl, h₃⟩
    | brk => exact wpAny_pure h₃
    | ret v => exact wpAny_pure h₃
end
noncomputable def turn (c : T G d fi) (b : SL G d fi) (f : Bool) (σ : St) : Option (Option Fl × St) := bd (c.tr σ) fun t σ => bd (dec f t σ) fun t σ => Bool.casesOn t (pu none σ) (bd (b.ex σ) fun fl σ => pu (some fl) σ)
theorem turn_ok (c : T G d fi) (b : SL G d fi) (f : Bool) : Ok (turn c b f) fun ρ r ρ' => ∀ fl ρ'', Option.casesOn (motive := fun _ => Prop) r (fl = .next ∧ ρ'' = ρ') (fun g => Fl.casesOn (motive := fun _ => Prop) g (WhilOK G d fi c.x b.xs ρ' fl ρ'') fun o => fl = .ret o ∧ ρ'' = ρ') → WhilOK G d fi c.x b.xs ρ fl ρ'' :=
  c.to.bd (R := fun t ρ r ρ' => Bool.casesOn (motive := fun _ => Prop) t (r = none ∧ ρ = ρ') (∃ g, r = some g ∧ ExsG G d fi b.xs ρ g ρ')) (fun t => (Ok.dec f t).bd (R := fun t ρ r ρ' => Bool.casesOn (motive := fun _ => Prop) t (r = none ∧ ρ = ρ') (∃ g, r = some g ∧ ExsG G d fi b.xs ρ g ρ')) (fun t => by
    cases t
    · exact .pu fun _ => ⟨rfl, rfl⟩
    · exact b.eo.bd (R := fun g ρ r ρ' => r = some g ∧ ρ = ρ') (fun g => .pu fun _ => ⟨rfl, rfl⟩) fun _ g _ _ _ h q => by obtain ⟨rfl, rfl⟩ := q; exact ⟨g, rfl, h⟩) fun _ t _ _ _ h q => by obtain ⟨rfl, rfl⟩ := h; exact q)
    fun ρ t ρ₁ r ρ' h q fl ρ'' k X W φ s e cm S F R kk => code_while (h X _ W φ s e S F _ fun W' φ' s' p' => by
      cases t with
      | false =>
        obtain ⟨rfl, rfl⟩ := q
        obtain ⟨rfl, rfl⟩ := k
        exact kk _ _ _ _ p'.f p'.ag rfl
      | true =>
        obtain ⟨g, rfl, hb⟩ := q
        refine hb X _ W' φ' s' e cm S p'.f _ fun f W2 φ2 s2 A2 B2 C2 => ?_
        cases g with
        | next => cases C2; exact k X W2 φ2 s2 e cm S A2 R fun f W3 φ3 s3 A3 B3 C3 => kk _ _ _ _ A3 ((p'.ag.trans B2).trans B3) C3
        | ret o =>
          obtain ⟨rfl, rfl⟩ := k
          obtain ⟨v', rfl, ro⟩ := C2
          exact kk _ _ _ _ A2 (p'.ag.trans B2) ⟨v', rfl, ro⟩)
theorem for_nil {x : Str} {p' : Pos} {b : List Stmt} {ρ : Loc} : ForOK G d fi (.Name x p') b [] ρ .next ρ := fun X W φ s it e cm S F f I R k =>
  code_for (I.next S.hd F f fun s' A B C => k _ _ _ _ A B rfl)
theorem for_ok {x : Str} {p' : Pos} {i : Nat} (hx : fi.isOwn x i = true) (b : SL G d fi) (v : V) (l : List V) : Ok (fun σ => b.ex ⟨σ.ρ.set i (some (.val v)), σ.tp, σ.ob⟩) fun ρ g ρ' => ∀ fl ρ'', Fl.casesOn (motive := fun _ => Prop) g (ForOK G d fi (.Name x p') b.xs l ρ' fl ρ'') (fun o => fl = .ret o ∧ ρ'' = ρ') → ForOK G d fi (.Name x p') b.xs (v :: l) ρ fl ρ'' := by
  intro σ g σ' e q
  obtain ⟨q1, hb⟩ := b.eo _ _ _ e q
  refine ⟨q1, fun fl ρ'' k X W φ s it ef cm S F f I R kk => code_for (I.next S.hd F f fun s' A B C => fun v' rv I' => ?_)⟩
  obtain ⟨o, ho⟩ := I'.at
  refine store_ok (X := X.pinned it o) (S.pinned f.pin) (.inr cm) (A.pinned f ho) (.val rv) (ef ▸ hx) fun φ2 s2 A2 B2 => ?_
  refine hb (X.pinned it o) _ W φ2 s2 ef cm (S.pinned f.pin) A2 _ fun g' W3 φ3 s3 A3 B3 C3 => ?_
  obtain ⟨A4, f4, h4⟩ := A3.unpin f.pin f.nc
  have ag := B2.trans B3
  cases g with
  | next => cases C3; exact k X W3 φ3 s3 it ef cm S A4 f4 (I'.ag ag (h4.trans ho.symm)) R fun f W3 φ3 s3 A3 B3 C3 => kk _ _ _ _ A3 ((B.trans ag).trans B3) C3
  | ret r =>
    obtain ⟨rfl, rfl⟩ := k
    obtain ⟨v', rfl, ro⟩ := C3
    exact kk _ _ _ _ A4 (B.trans ag) ⟨v', rfl, ro.unpin⟩

theorem cellsFrom_acc : ∀ (names : List (Str × NameKind)) (n : Nat) (acc : List (Str × Addr)) (x : Str), (acc.lookup x).isSome = true → ((cellsFrom n names acc).lookup x).isSome = true
  | [], _, _, _, h => h
  | (y, k) :: r, n, acc, x, h => by
    unfold cellsFrom
    split
    · refine cellsFrom_acc r _ _ x ?_
      rw [List.lookup_cons]; split <;> first | rfl | exact h
    · exact cellsFrom_acc r n acc x h
theorem cellsFrom_has : ∀ (names : List (Str × NameKind)) (n : Nat) (acc : List (Str × Addr)) (x : Str), names.lookup x = some .cell → ((cellsFrom n names acc).lookup x).isSome = true
  | [], _, _, _, h => by cases h
  | (y, k) :: r, n, acc, x, h => by
    rw [List.lookup_cons] at h
    unfold cellsFrom
    cases q : x == y with
    | true =>
      rw [q] at h; cases h
      rw [if_pos (by decide)]
      refine cellsFrom_acc r _ _ x ?_
      rw [List.lookup_cons, q]; rfl
    | false =>
      rw [q] at h
      split <;> exact cellsFrom_has r _ _ x h
section
variable {kindOf : Str → Option NameKind}
theorem bindL_not {q : Str} : ∀ (ps : List Str) (vals : List Value) (m : Str → Option Value), q ∉ ps → bindL kindOf (ps.zip vals) m q = m q
  | [], _, _, _ => rfl
  | _ :: _, [], _, _ => rfl
  | a :: ps, b :: vals, m, hq => by
    rw [List.zip_cons_cons, bindL, bindL_not ps vals _ fun z => hq (List.mem_cons_of_mem _ z)]
    split
    · exact if_neg (fun e : q = a => hq (e ▸ List.mem_cons_self))
    · rfl
theorem bindC_not {q : Str} : ∀ (ps : List Str) (vals : List Value) (m : Str → Option Value), q ∉ ps → bindC kindOf (ps.zip vals) m q = m q
  | [], _, _, _ => rfl
  | _ :: _, [], _, _ => rfl
  | a :: ps, b :: vals, m, hq => by
    rw [List.zip_cons_cons, bindC, bindC_not ps vals _ fun z => hq (List.mem_cons_of_mem _ z)]
    split
    · rfl
    · exact if_neg (fun e : q = a => hq (e ▸ List.mem_cons_self))
theorem bindL_lookup : ∀ (ps : List Str) (vals : List Value) (m : Str → Option Value) (i : Nat) (p : Str) (v : Value), ps.Nodup → ps[i]? = some p → vals[i]? = some v → kindOf p = some .local → bindL kindOf (ps.zip vals) m p = some v
  | [], _, _, _, _, _, _, h, _, _ => nomatch h
  | q :: ps, [], _, i, _, _, _, _, h, _ => nomatch h
  | q :: ps, u :: vals, m, 0, p, v, hn, h1, h2, hk => by
    cases h1; cases h2
    rw [List.zip_cons_cons, bindL, if_pos hk, bindL_not _ _ _ (List.nodup_cons.mp hn).1]; exact if_pos rfl
  | q :: ps, u :: vals, m, i + 1, p, v, hn, h1, h2, hk => by
    rw [List.zip_cons_cons, bindL]
    exact bindL_lookup ps vals _ i p v (List.nodup_cons.mp hn).2 h1 h2 hk
theorem bindC_lookup : ∀ (ps : List Str) (vals : List Value) (m : Str → Option Value) (i : Nat) (p : Str) (v : Value), ps.Nodup → ps[i]? = some p → vals[i]? = some v → kindOf p ≠ some .local → bindC kindOf (ps.zip vals) m p = some v
  | [], _, _, _, _, _, _, h, _, _ => nomatch h
  | q :: ps, [], _, i, _, _, _, _, h, _ => nomatch h
  | q :: ps, u :: vals, m, 0, p, v, hn, h1, h2, hk => by
    cases h1; cases h2
    rw [List.zip_cons_cons, bindC, if_neg hk, bindC_not _ _ _ (List.nodup_cons.mp hn).1]; exact if_pos rfl
  | q :: ps, u :: vals, m, i + 1, p, v, hn, h1, h2, hk => by
    rw [List.zip_cons_cons, bindC]
    exact bindC_lookup ps vals _ i p v (List.nodup_cons.mp hn).2 h1 h2 hk
end
noncomputable def loc0 (args : List V) (n : Nat) : Loc := args.map (fun v => some (.val v)) ++ List.replicate n none
theorem call_of {a : Addr} {f : FD} {args : List V} {o : O} {n : Nat} {g : Fl} {ρ' : Loc} (hf : G.fd.lookup a = some f) (hn : args.length = f.ps.length) (h : ExsG G d f.fi f.st (loc0 args n) g ρ') (hg : g = .ret o ∨ (g = .next ∧ o = .val .none)) : CallOK G (d + 1) a args o := by
  intro C A W s vals R g hh hdp hun hkeep hgens hos wf r k
  obtain ⟨ob, fd, fo⟩ := g.fd a f hf
  have hlen : vals.length = f.ps.length := r.length.trans hn
  have hkind : ∀ x ∈ f.ps.zip vals, fd.scope.names.lookup x.1 = some .local ∨ (fd.scope.names.lookup x.1 = some .cell ∧ ((cellsFrom (s.heap.objs.size + 1) fd.scope.names []).lookup x.1).isSome = true) := fun x hx => by
    rw [fo.names]
    rcases fo.own x.1 (List.of_mem_zip hx).1 with q | q
    · exact .inl q
    · exact .inr ⟨q, cellsFrom_has _ _ _ _ q⟩
  refine codeAny_call_cells (by omega) (hkeep _ _ fo.at_) fo.dat (g.nolimit.keeps hkeep) (fo.rec_.keeps hkeep) fo.body (fo.bind vals hlen) fo.clo hkind (fun s₁ IC => ?_) fo.co fo.gen fo.kind
  generalize he : callEnvC fd s.heap.objs.size a = env at IC ⊢
  have hL : env.locals = s.heap.objs.size := by rw [← he]; rfl
  have hNm : env.scope.names = f.fi.names := by rw [← he]; exact fo.names
  have hcs : env.cells = cellsFrom (s.heap.objs.size + 1) fd.scope.names [] := by rw [← he]; rfl
  obtain ⟨h₁, tk, rfl⟩ := IC.toInCall.same
  have hk := IC.toInCall.keep
  have cAbove : ∀ x c, env.cells.lookup x = some c → s.heap.objs.size ≤ c := fun x c hc => by
    have := IC.above x c (mem_of_lookup hc); rw [hL] at this; exact Nat.le_of_lt this
  have hko : ∀ x, env.kindOf x = f.fi.names.lookup x := fun x => by unfold Env.kindOf; rw [hNm]
  let X : FC := ⟨C, A.deeper env, env, f.fi, s.heap.get?, W, true⟩
  have S : FS G d X := by
    refine ⟨g, hkeep, hh, ?_, ?_, ?_, ?_, ?_, hNm, ?_, ?_, fo.inj⟩
    · show A.depth + 1 + 2 * d + 10 ≤ _; omega
    · show A.units + 3 + 20 * d + deep + 100 < _; omega
    · show env.scope.kind = _; rw [← he]; exact fo.kind
    · show env.globals = _; rw [← he]; exact fo.gl
    · show env.builtins = _; rw [← he]; exact fo.bi
    · rintro x (q | q)
      · have q : f.fi.names.lookup x = some .cell := q
        rw [← fo.names] at q
        have := cellsFrom_has fd.scope.names (s.heap.objs.size + 1) [] x q
        rw [← hcs] at this
        exact Option.isSome_iff_exists.mp this
      · exact absurd rfl (fo.free _ (mem_of_lookup q))
    · intro x y c hx hy; exact name_of_addr IC.apart (mem_of_lookup hx) (mem_of_lookup hy)
  have gs : Gs W s W { s with heap := h₁, toks := tk } := Gs.of wf hk
  have nof : ∀ b, s.heap.objs.size ≤ b → s.heap.get? b = none ∧ ¬ W b := fun b q => ⟨none_of_le q, fun w => by obtain ⟨_, z⟩ := wf b w; rw [none_of_le q] at z; cases z⟩
  have F : At X W (fun _ => []) { s with heap := h₁, toks := tk } (loc0 args n) := by
    refine ⟨hgens, hos, ⟨hk, ?_, gs.g.wf, fun _ _ _ q => q, fun _ _ _ q => (by cases q), ?_, ?_⟩, ?_, fun _ _ q => (by cases q)⟩
    · rintro b (q | ⟨_, x, q⟩ | ⟨i, q⟩)
      · exact nof b (by rw [show b = env.locals from q, hL]; exact Nat.le_refl _)
      · exact nof b (cAbove x b q)
      · cases q
    · obtain ⟨o, es, ep, h1, h2, h3, _⟩ := IC.toInCall.ns; exact ⟨o, es, ep, h1, h2, h3⟩
    · intro x c hc; obtain ⟨o, h1, h2⟩ := IC.cell x c hc; exact ⟨o, _, h1, h2⟩
    · intro x i hx w hw hkd
      have hx : f.fi.tbl.lookup x = some i := hx
      unfold loc0 at hw
      have hi : i < args.length := by
        rcases Nat.lt_or_ge i args.length with q | q
        · exact q
        · rw [List.getElem?_append_right (by rwa [List.length_map]), List.getElem?_replicate] at hw
          split at hw <;> cases hw
      rw [List.getElem?_append_left (by rwa [List.length_map]), List.getElem?_map, Option.map_eq_some_iff] at hw
      obtain ⟨w', hw1, hw2⟩ := hw
      cases hw2
      obtain ⟨u, hu, hr⟩ := r.get hw1
      obtain ⟨p, hp⟩ : ∃ p, f.ps[i]? = some p := ⟨_, List.getElem?_eq_getElem (by rw [← hn]; exact hi)⟩
      obtain rfl : x = p := fo.inj x p i hx (fo.at0 i p hp)
      refine ⟨u, ?_, rfl, hr.ag (gs.g.ag wf)⟩
      rcases fo.own x (List.mem_of_getElem? hp) with q | q
      · exact .inl ⟨(hko x).trans q, _, IC.toInCall.ns, bindL_lookup f.ps vals _ i x u fo.nodup hp hu ((hko x).trans q)⟩
      · have hc := cellsFrom_has fd.scope.names (s.heap.objs.size + 1) [] x (by rw [fo.names]; exact q)
        rw [← hcs] at hc
        obtain ⟨c, hc⟩ := Option.isSome_iff_exists.mp hc
        refine .inr ⟨.inl ((hko x).trans q), c, hc, ?_⟩
        have := IC.cell x c hc
        rw [bindC_lookup f.ps vals _ i x u fo.nodup hp hu (by rw [hko, q]; decide)] at this
        exact this
  refine h X _ W _ _ rfl rfl S F _ fun fw W' φ' s' A' B' C' => ?_
  have gs' : Gs W s W' s' := ⟨⟨fun b o e => A'.f.pin b o e, fun a q => B'.w a q, A'.f.wf, fun b o e q => A'.f.w0 b o e q⟩, A'.gens.trans hgens.symm, A'.os.trans hos.symm⟩
  rcases hg with rfl | ⟨rfl, rfl⟩
  · obtain ⟨v', rfl, p, ro, hp⟩ := C'
    refine k v' W' s' gs' ?_
    cases o with
    | val v => exact ro.2
    | own r' =>
      obtain ⟨b, rfl, rfl, z⟩ := ro
      obtain ⟨w1, _, w3⟩ := hp b List.mem_cons_self
      exact ⟨b, rfl, w3, w1, z⟩
  · cases C'
    exact k _ W' s' gs' rfl
end
end Mine
end

section
open PySem
set_option autoImplicit false
set_option linter.unusedVariables false
namespace Mine
open PySem.W (Looks keepIn)

def relab (outer names : List (Str × NameKind)) : List (Str × NameKind) := names.map fun (n, k) => if (k == .free && outer.lookup n == some .cell) then (n, .cell) else (n, k)
def FI.inner (fi : FI) (sc : Scope) (x : Str) (i : Nat) : FI := ⟨relab fi.names sc.names, (x, i) :: fi.tbl⟩
def compName (fi : FI) (sc : Scope) (x : Str) (y : Str × NameKind) : Bool := match y.2 with
  | .local => sc.names.lookup y.1 == some .local && (y.1 == x || (fi.tbl.lookup y.1).isNone)
  | .free => sc.names.lookup y.1 == some .free && (fi.names.lookup y.1 == some .cell || fi.names.lookup y.1 == some .free)
  | .cell => false
  | _ => (fi.tbl.lookup y.1).isNone
def compOk (fi : FI) (sc : Scope) (x : Str) (i : Nat) : Bool := sc.kind == .function && sc.names.lookup x == some .local && (sc.names.all (compName fi sc x)) && (fi.tbl.all fun p => p.2 != i)
theorem relab_lookup (outer : List (Str × NameKind)) (y : Str) : ∀ names : List (Str × NameKind), (relab outer names).lookup y = (names.lookup y).map fun k => if (k == .free && outer.lookup y == some .cell) then .cell else k
  | [] => rfl
  | (n, k) :: r => by
    have ih := relab_lookup outer y r
    show List.lookup y ((if (k == .free && outer.lookup n == some .cell) then (n, .cell) else (n, k)) :: relab outer r) = _
    have e : (if (k == .free && outer.lookup n == some .cell) then (n, NameKind.cell) else (n, k)) = (n, if (k == .free && outer.lookup n == some .cell) then NameKind.cell else k) := by split <;> rfl
    rw [e, List.lookup_cons, List.lookup_cons, ih]
    cases q : y == n with
    | true => rw [beq_iff_eq.mp q]; rfl
    | false => rfl
theorem relabel_names {fi : FI} {env : Env} (sc : Scope) (hf : env.scope.kind = .function) (hn : env.scope.names = fi.names) : (relabel sc env).names = relab fi.names sc.names := by
  unfold relabel relab
  simp only [hf, Env.kindOf, hn, beq_self_eq_true, Bool.and_true]
structure CompC (fi : FI) (sc : Scope) (x : Str) (i : Nat) : Prop where
  kind : sc.kind = .function
  own : sc.names.lookup x = some .local
  names : ∀ y, y ∈ sc.names → compName fi sc x y = true
  new : ∀ y j, fi.tbl.lookup y = some j → j ≠ i
theorem CompC.of {fi : FI} {sc : Scope} {x : Str} {i : Nat} (h : compOk fi sc x i = true) : CompC fi sc x i := by
  simp only [compOk, Bool.and_eq_true, beq_iff_eq, List.all_eq_true, bne_iff_ne, ne_eq] at h
  exact ⟨h.1.1.1, h.1.1.2, h.1.2, fun y j hy => h.2 (y, j) (mem_of_lookup hy)⟩
section
variable {fi : FI} {sc : Scope} {x : Str} {i : Nat}
theorem CompC.cell (h : CompC fi sc x i) : ∀ y ∈ sc.names, y.2 ≠ .cell := fun y hy q => by
  have := h.names y hy; unfold compName at this; rw [q] at this; cases this
theorem CompC.local (h : CompC fi sc x i) : ∀ y ∈ sc.names, y.2 = .local → sc.names.lookup y.1 = some .local := fun y hy q => by
  have := h.names y hy; unfold compName at this; rw [q] at this
  exact beq_iff_eq.mp (Bool.and_eq_true_iff.mp this).1
theorem CompC.free (h : CompC fi sc x i) {y : Str} (hy : sc.names.lookup y = some .free) : fi.names.lookup y = some .cell ∨ fi.names.lookup y = some .free := by
  have := h.names _ (mem_of_lookup hy); unfold compName at this
  simp only [Bool.and_eq_true, beq_iff_eq, Bool.or_eq_true] at this; exact this.2
theorem CompC.isFree (h : CompC fi sc x i) {y : Str} {j : Nat} (hne : y ≠ x) (hy : fi.tbl.lookup y = some j) (hk : (fi.inner sc x i).names.lookup y ≠ none) : sc.names.lookup y = some .free := by
  have hk : (relab fi.names sc.names).lookup y ≠ none := hk
  rw [relab_lookup] at hk
  cases z : sc.names.lookup y with
  | none => rw [z] at hk; exact absurd rfl hk
  | some kd =>
    have := h.names _ (mem_of_lookup z)
    unfold compName at this
    cases kd with
    | free => rfl
    | cell => cases this
    | «local» =>
      simp only [Bool.and_eq_true, Bool.or_eq_true, beq_iff_eq] at this
      rcases this.2 with z1 | z1
      · exact absurd z1 hne
      · rw [hy] at z1; cases z1
    | globalExplicit => dsimp only at this; rw [hy] at this; cases this
    | globalImplicit => dsimp only at this; rw [hy] at this; cases this
theorem CompC.cells (h : CompC fi sc x i) {y : Str} (hy : (fi.inner sc x i).names.lookup y = some .cell ∨ (fi.inner sc x i).names.lookup y = some .free) : sc.names.lookup y = some .free := by
  have hy : (relab fi.names sc.names).lookup y = some .cell ∨ (relab fi.names sc.names).lookup y = some .free := hy
  rw [relab_lookup] at hy
  cases z : sc.names.lookup y with
  | none => rw [z] at hy; rcases hy with q | q <;> cases q
  | some kd =>
    rw [z] at hy
    cases kd with
    | free => rfl
    | cell => exact absurd rfl (h.cell _ (mem_of_lookup z))
    | _ => rcases hy with q | q <;> cases q
end
theorem closure_ok (env : Env) : ∀ (names : List (Str × NameKind)), (∀ y ∈ names, y.2 = .free → ∃ c, env.cells.lookup y.1 = some c) → ∀ acc : List (Str × Addr),
    ∃ cl : List (Str × Addr), (forIn names acc fun (y : Str × NameKind) cs => if (y.2 == NameKind.free) = true then do let a ← cellOf env y.1; pure (ForInStep.yield ((y.1, a) :: cs)) else pure (ForInStep.yield cs) : Sem (List (Str × Addr))) = pure cl ∧
      (∀ n c, (n, c) ∈ cl → (n, c) ∈ acc ∨ env.cells.lookup n = some c) ∧ (∀ y ∈ names, y.2 = .free → (cl.lookup y.1).isSome = true) ∧ (∀ n, (acc.lookup n).isSome = true → (cl.lookup n).isSome = true)
  | [], _, acc => ⟨acc, rfl, fun n c h => .inl h, fun y h => (by cases h), fun n h => h⟩
  | (n, k) :: r, h, acc => by
    by_cases q : k = .free
    · subst q
      obtain ⟨c, hc⟩ := h (n, .free) List.mem_cons_self rfl
      obtain ⟨cl, e, h1, h2, h3⟩ := closure_ok env r (fun y hy => h y (List.mem_cons_of_mem _ hy)) ((n, c) :: acc)
      refine ⟨cl, ?_, fun m d hd => ?_, fun y hy hk => ?_, fun m hm => h3 m ?_⟩
      · rw [List.forIn_cons]
        have e1 : cellOf env n = pure c := by unfold cellOf; rw [hc]
        simp only [beq_self_eq_true, if_true, e1]
        exact e
      · rcases h1 m d hd with z | z
        · rcases List.mem_cons.mp z with z | z
          · cases z; exact .inr hc
          · exact .inl z
        · exact .inr z
      · rcases List.mem_cons.mp hy with z | z
        · subst z; exact h3 n (by rw [List.lookup_cons, beq_self_eq_true]; rfl)
        · exact h2 y z hk
      · rw [List.lookup_cons]; split <;> first | rfl | exact hm
    · obtain ⟨cl, e, h1, h2, h3⟩ := closure_ok env r (fun y hy => h y (List.mem_cons_of_mem _ hy)) acc
      refine ⟨cl, ?_, h1, fun y hy hk => ?_, h3⟩
      · rw [List.forIn_cons]
        have : (k == NameKind.free) = false := by simpa using q
        simp only [this, Bool.false_eq_true, if_false]
        exact e
      · rcases List.mem_cons.mp hy with z | z
        · subst z; exact absurd hk q
        · exact h2 y z hk
theorem closureFor_ok {env : Env} {scope : Scope} (h : ∀ y ∈ scope.names, y.2 = .free → ∃ c, env.cells.lookup y.1 = some c) :
    ∃ cl : List (Str × Addr), closureFor scope env = pure cl ∧ (∀ n c, cl.lookup n = some c → env.cells.lookup n = some c) ∧ (∀ y ∈ scope.names, y.2 = .free → (cl.lookup y.1).isSome = true) := by
  obtain ⟨cl, e, h1, h2, _⟩ := closure_ok env scope.names h []
  refine ⟨cl, ?_, fun n c hc => (h1 n c (mem_of_lookup hc)).elim (fun z => nomatch z) id, h2⟩
  have : closureFor scope env = (forIn scope.names ([] : List (Str × Addr)) fun (y : Str × NameKind) cs => if (y.2 == NameKind.free) = true then do let a ← cellOf env y.1; pure (ForInStep.yield ((y.1, a) :: cs)) else pure (ForInStep.yield cs) : Sem (List (Str × Addr))) >>= fun cs => pure cs := rfl
  rw [this, e]; rfl

section
variable {A : Around} {R : Result → Shared → Prop} {s : Shared}
noncomputable def TestsW (M : Model) (A : Around) (E : Value → Shared → Prop) (env : Env) (cs : List Expr) (Q : Bool → Shared → Prop) (s : Shared) : Prop := List.casesOn cs (Q true s) fun c cs => List.casesOn cs (wpAny M A (isTrue c env (eval c env)) Q E s) fun _ _ => False
theorem code_comp {elt iter : Expr} {cs : List Expr} {x : Str} {px : Pos} {scope : Scope} {pos : Pos} {it acc : Value} {env : Env} {prog : Program} {w : World}
    (h : wpAny (model prog w) A (pyNext it) (fun r s₁ => match r with
      | none => R (.ok .next) s₁
      | some v => wpAny (model prog w) A (storeName env x v) (fun _ s₂ => TestsW (model prog w) A (notedBy (model prog w) A env fun e s' => R (.error e) s') env cs (fun ok s₃ => Bool.casesOn (motive := fun _ => Prop) ok (codeAny (model prog w) A (.compLoop (.ListComp elt [⟨.Name x px, iter, cs, 0⟩] scope pos) 0 it acc env) R s₃) (wpAny (model prog w) A (eval elt env) (fun y s₄ =>
              wpAny (model prog w) A (call (.builtin "list.append") [acc, y]) (fun _ s₅ => codeAny (model prog w) A (.compLoop (.ListComp elt [⟨.Name x px, iter, cs, 0⟩] scope pos) 0 it acc env) R s₅) (notedBy (model prog w) A env fun e s' => R (.error e) s') s₄) (notedBy (model prog w) A env fun e s' => R (.error e) s') s₃)) s₂) (notedBy (model prog w) A env fun e s' => R (.error e) s') s₁) (notedBy (model prog w) A env fun e s' => R (.error e) s') s) :
    codeAny (model prog w) A (.compLoop (.ListComp elt [⟨.Name x px, iter, cs, 0⟩] scope pos) 0 it acc env) R s := by
  refine codeAny_of_tree ?_
  show wpAny _ A ((compTurn (.ListComp elt [⟨.Name x px, iter, cs, 0⟩] scope pos) 0 it acc env).onRaise (fun x => do noteFrame x env; theTreesLotGoes x)) _ _ s
  refine wpAny_noted ?_
  rw [compTurn_list]
  refine wpAny_bind (wpAny_standAt (wpAny_bind (wpAny_mono h (fun r s₁ h₁ => ?_) fun _ _ h' => h')))
  cases r with
  | none => exact wpAny_pure h₁
  | some v =>
    refine wpAny_bind (wpAny_pure ?_)
    refine wpAny_bind (wpAny_mono (wpAny_assign_Name h₁) (fun _ s₂ h₂ => ?_) fun _ _ h' => h')
    cases cs with
    | nil =>
      refine wpAny_bind (wpAny_tests_nil ?_)
      exact wpAny_bind (wpAny_bind (wpAny_mono h₂ (fun x s₄ h₄ => wpAny_bind (wpAny_mono h₄ (fun _ s₅ h₅ => wpAny_pure (wpAny_pure ⟨rfl, h₅⟩)) fun _ _ h' => h')) fun _ _ h' => h'))
    | cons c cs =>
      cases cs with
      | nil =>
        refine wpAny_bind (wpAny_tests_one (wpAny_mono h₂ (fun ok s₃ h₃ => ?_) fun _ _ h' => h'))
        cases ok with
        | true => exact wpAny_bind (wpAny_bind (wpAny_mono h₃ (fun x s₄ h₄ => wpAny_bind (wpAny_mono h₄ (fun _ s₅ h₅ => wpAny_pure (wpAny_pure ⟨rfl, h₅⟩)) fun _ _ h' => h')) fun _ _ h' => h'))
        | false => exact wpAny_bind (wpAny_pure (wpAny_pure ⟨rfl, h₃⟩))
      | cons => cases h₂
end

noncomputable def TestsG (G : Gl) (d : Nat) (fi : FI) (cs : List Expr) (ρ : Loc) (t : Bool) : Prop := List.casesOn cs (t = true) fun c cs => List.casesOn cs (TrG G d fi c ρ t ρ) fun _ _ => False
noncomputable def CompI (G : Gl) (d : Nat) (fi : FI) (cs : List Expr) (elt : Expr) (i : Nat) (ρ : Loc) (l vs : List V) : Prop :=
  @List.rec V (fun _ => List V → Prop) (fun vs => vs = []) (fun v _ ih vs => (∃ w r, vs = w :: r ∧ TestsG G d fi cs (ρ.set i (some (.val v))) true ∧ EvV G d fi elt (ρ.set i (some (.val v))) w (ρ.set i (some (.val v))) ∧ ih r) ∨ (TestsG G d fi cs (ρ.set i (some (.val v))) false ∧ ih vs)) l vs
abbrev CompL (G : Gl) (d : Nat) (fi : FI) (elt : Expr) (i : Nat) (ρ : Loc) (l vs : List V) : Prop := CompI G d fi [] elt i ρ l vs
noncomputable def shr (ρ : Loc) : Loc := ρ.map fun o => o.bind fun o => O.casesOn o (fun v => some (.val v)) fun _ => none
theorem shr_get {ρ : Loc} {j : Nat} {o : O} (e : (shr ρ)[j]? = some (some o)) : ∃ v, o = .val v ∧ ρ[j]? = some (some (.val v)) := by
  unfold shr at e
  rw [List.getElem?_map] at e
  obtain ⟨o', e1, e2⟩ := Option.map_eq_some_iff.mp e
  cases o' with
  | none => cases e2
  | some o' => cases o' with
    | own r => cases e2
    | val v => cases e2; exact ⟨v, rfl, e1⟩

section
variable {G : Gl} {d : Nat} {fi : FI}
theorem TestsG.go {cs : List Expr} {ρ : Loc} {t : Bool} (h : TestsG G d fi cs ρ t) {X : FC} {E : Value → Shared → Prop} {W : WS} {φ : Nat → List Addr} {s : Shared} {Q : Bool → Shared → Prop} (e : X.fi = fi) (S : FS G d X) (F : At X W φ s ρ)
    (k : ∀ W' φ' s', Pst X W s W' φ' s' ρ → Q t s') : TestsW X.C.M X.A E X.env cs Q s := by
  cases cs with
  | nil => cases h; exact k _ _ _ (.refl F)
  | cons c cs => cases cs with
    | nil => exact h X E W φ s e S F Q k
    | cons => cases h
theorem comp_loop {elt iter : Expr} {cs : List Expr} {x : Str} {px : Pos} {i : Nat} {sc : Scope} {pos : Pos} {ρ₀ : Loc} (hx : fi.isOwn x i = true) (hl : fi.names.lookup x = some .local) : ∀ {l vs : List V} {r : List V} {ρ : Loc} {X : FC} {W : WS} {φ : Nat → List Addr} {s : Shared} {it acc : Addr} {R : Result → Shared → Prop},
    CompI G d fi cs elt i ρ₀ l vs → X.fi = fi → FS G d X → (∀ o, ρ.set i o = ρ₀.set i o) → At X W φ s ρ → Fre X W φ it → ItR W s.heap it l → Fre X W φ acc → acc ≠ it → OwnAt W s.heap acc r → l.length + r.length ≤ room →
    (∀ W' φ' s' ρ', At X W' φ' s' ρ' → Ag W s.heap W' s'.heap → Fre X W' φ' acc → OwnAt W' s'.heap acc (vs.reverse ++ r) → R (.ok .next) s') → codeAny X.C.M X.A (.compLoop (.ListComp elt [⟨.Name x px, iter, cs, 0⟩] sc pos) 0 (.ref it) (.ref acc) X.env) R s := by
  intro l
  induction l with
  | nil =>
    intro vs r ρ X W φ s it acc R h e S hρ F f I fa hne O hr k
    cases h
    refine code_comp (I.next S.hd F f fun s' A B C => k _ _ _ _ A B fa ?_)
    obtain ⟨vs, n, e, _⟩ := id O
    exact O.ag B ((C acc _ hne e).trans e.symm)
  | cons v l ih =>
    intro vs r ρ X W φ s it acc R h e S hρ F f I fa hne O hr k
    refine code_comp (I.next S.hd F f fun s' A B C => fun v' rv I' => ?_)
    obtain ⟨o, ho⟩ := I'.at
    obtain ⟨zs, n, he, _⟩ := id O
    have he1 := C acc _ hne he
    have O1 := O.ag B (he1.trans he.symm)
    have F1 := A.pinned f ho
    have fa1 : Fre (X.pinned it o) W φ acc := ⟨by rw [FC.pinned_ne hne]; exact fa.pin, fa.w, fa.mu, fa.nc⟩
    have F2 := F1.pinned fa1 he1
    have S1 : FS G d (X.pinned it o) := S.pinned f.pin
    have S2 : FS G d ((X.pinned it o).pinned acc (lstO zs n)) := S1.pinned fa1.pin
    refine store_ok (X := (X.pinned it o).pinned acc (lstO zs n)) S2 (.inl (show X.fi.names.lookup x = _ by rw [e]; exact hl)) F2 (.val rv) (show X.fi.isOwn x i = true by rw [e]; exact hx) fun φ2 s2 A2 B2 => ?_
    rw [hρ] at A2
    rw [List.length_cons] at hr
    have := room_le
    rcases h with ⟨w, ws, rfl, ht, hw, hl'⟩ | ⟨ht, hl'⟩
    · refine ht.go (X := (X.pinned it o).pinned acc (lstO zs n)) e S2 A2 fun Wt φt st pt => ?_
      refine hw ((X.pinned it o).pinned acc (lstO zs n)) _ Wt φt st e S2 pt.f _ fun w' W3 φ3 s3 p3 r3 => ?_
      obtain ⟨A4, fa4, h4⟩ := p3.f.unpin fa1.pin fa.nc
      obtain ⟨A5, f5, h5⟩ := A4.unpin f.pin f.nc
      have fa5 : Fre X W3 φ3 acc := ⟨fa.pin, fa4.w, fa4.mu, fa.nc⟩
      have ag := (B2.trans pt.ag).trans p3.ag
      have O3 := O1.ag ag (h4.trans he1.symm)
      obtain ⟨vs, m, g1, g2, g3⟩ := O3
      have hs := g2.size
      rw [List.length_reverse] at hs
      refine call_meets PySem.F.slot_list_append ⟨_, g1, rfl⟩ PySem.F.entry_list_append (PySem.F.args_list_append_2 _ _) (list_append acc vs m _ (by rw [hs]; exact g3)) ⟨g1, ?_⟩
      have hsb : Heap.SameBut acc s3.heap (s3.heap.update acc (Obj.mapSeq (·.push w'))) := Heap.SameBut.update ..
      obtain ⟨A6, B6, _⟩ := A5.loose fa5 (t := s3.toks) fun b o q e => (hsb.2 b q).trans e
      refine ih hl' e S (ρ := ρ₀.set i (some (.val v))) (fun o => by rw [List.set_set]) A6 f5 (I'.ag (ag.trans B6) ((hsb.2 it (Ne.symm hne)).trans (h5.trans ho.symm))) fa5 hne (r := w :: r) ⟨_, _, Heap.get?_update_self _ g1 rfl, ?_, ?_⟩ (by rw [List.length_cons]; omega) fun W' φ' s' ρ' a b c d => k W' φ' s' ρ' a ((B.trans (ag.trans B6)).trans b) c ?_
      · rw [Array.toList_push, List.reverse_cons]; exact (g2.snoc r3).ag B6
      · rw [List.length_cons]; omega
      · rw [List.reverse_cons, List.append_assoc]; exact d
    · refine ht.go (X := (X.pinned it o).pinned acc (lstO zs n)) e S2 A2 fun W3 φ3 s3 p3 => ?_
      obtain ⟨A4, fa4, h4⟩ := p3.f.unpin fa1.pin fa.nc
      obtain ⟨A5, f5, h5⟩ := A4.unpin f.pin f.nc
      have fa5 : Fre X W3 φ3 acc := ⟨fa.pin, fa4.w, fa4.mu, fa.nc⟩
      have ag := B2.trans p3.ag
      exact ih hl' e S (ρ := ρ₀.set i (some (.val v))) (fun o => by rw [List.set_set]) A5 f5 (I'.ag ag (h5.trans ho.symm)) fa5 hne (O1.ag ag (h4.trans he1.symm)) (by omega) fun W' φ' s' ρ' a b c d => k W' φ' s' ρ' a ((B.trans ag).trans b) c d

theorem comp_core {elt : Expr} {cs : List Expr} {x : Str} {px : Pos} {i : Nat} {sc : Scope} {pos pos' : Pos} {it : It G d fi} {ρ ρ₁ : Loc} {l vs : List V} (hc : CompC fi sc x i) (h1 : ItG G d fi it.x ρ l ρ₁) (h2 : CompI G d (fi.inner sc x i) cs elt i ((shr ρ₁).set i none) l vs) (hr : l.length ≤ room)
    {X : FC} {E : Value → Shared → Prop} {W : WS} {φ : Nat → List Addr} {s : Shared} {use : Option (Value → Sem Unit)} {Q : Value → Shared → Prop} (e : X.fi = fi) (S : FS G d X) (F : At X W φ s ρ)
    (k : ∀ acc C W' φ' s', Pst X W s W' φ' s' ρ₁ → Fre X W' φ' C → (∃ m, s'.heap.Ns C m) → acc ≠ C → Fre X W' φ' acc → OwnAt W' s'.heap acc vs.reverse → compPost X.C.M X.A E use Q (.ref acc) C (.ok .next) s') :
    wpAny X.C.M X.A (comprehension (.ListComp elt [⟨.Name x px, it.x, cs, 0⟩] sc pos) sc X.env pos' (newList []) false (eval it.x X.env) use) Q E s := by
  subst e
  obtain ⟨cl, hcl, hcl1, hcl2⟩ := closureFor_ok (env := X.env) (scope := sc) fun y hy q => S.cel y.1 (hc.free (by
    have := hc.names y hy; unfold compName at this; rw [q] at this; exact beq_iff_eq.mp (Bool.and_eq_true_iff.mp this).1))
  refine wpAny_comprehension_free (g := ⟨.Name x px, it.x, cs, 0⟩) (gs := []) rfl (noSet it.pl X.env) hcl hc.kind hc.local ?_
  refine h1 X E W φ s rfl S F _ fun a W1 φ1 s1 p1 f1 I1 => wpAny_newObj_type ?_
  refine wpAny_newFunctionEnv hc.cell (by intro y hy; cases hy) (fun h3 hns hsb => ?_) hc.kind
  generalize hh2 : s1.heap.push { cls := .type "list", data := .seq ([] : List Value).toArray } = h2' at hns hsb ⊢
  have hz2 : h2'.objs.size = s1.heap.objs.size + 1 := by rw [← hh2]; exact Heap.size_push ..
  have hk2 : ∀ b o, s1.heap.get? b = some o → h2'.get? b = some o := fun b o q => by rw [← hh2]; exact Heap.get?_push_of_some _ q
  have hk3 : ∀ b o, h2'.get? b = some o → h3.get? b = some o := fun b o q => (hsb.2 b (fun z => absurd (Heap.lt_size q) (by rw [z]; exact Nat.lt_irrefl _))).trans (Heap.get?_push_of_some _ q)
  have ha3 : h3.get? s1.heap.objs.size = some (lstO ([] : List Value).toArray 0) := hk3 _ _ (by rw [← hh2]; exact Heap.get?_push_size _ rfl)
  have g3 : Gs W1 s1 W1 { s1 with heap := h3, toks := s1.toks + ([] : List (Str × Value)).length } := Gs.of p1.f.f.wf fun b o q => hk3 b o (hk2 b o q)
  have F3 := p1.f.gs g3
  have n1 : s1.heap.get? s1.heap.objs.size = none := fresh_size _
  have n2 : s1.heap.get? h2'.objs.size = none := none_of_le (by rw [hz2]; exact Nat.le_succ _)
  have fa : Fre X W1 φ1 s1.heap.objs.size := .of p1.f n1
  have fC : Fre X W1 φ1 h2'.objs.size := .of p1.f n2
  obtain ⟨io, hio⟩ := I1.at
  have ita : s1.heap.objs.size ≠ a := fun q => by rw [q, hio] at n1; cases n1
  have itC : a ≠ h2'.objs.size := fun q => by rw [← q, hio] at n2; cases n2
  have aC : s1.heap.objs.size ≠ h2'.objs.size := by rw [hz2]; exact Nat.ne_of_lt (Nat.lt_succ_self _)
  -- the comprehension's frame
  generalize hce : ({ newEnv sc h2'.objs.size X.env.globals cl X.env.qual none .none (some X.env) builtinsNs with scope := relabel sc X.env } : Env) = cenv
  have cL : cenv.locals = h2'.objs.size := by rw [← hce]; rfl
  have cC : cenv.cells = cl := by rw [← hce]; rfl
  have cN : cenv.scope.names = relab X.fi.names sc.names := by rw [← hce]; exact relabel_names sc S.fn S.nm
  let Y : FC := ⟨X.C, X.A, cenv, X.fi.inner sc x i, fun b => if b = s1.heap.objs.size ∨ b = h2'.objs.size ∨ b = a then none else h3.get? b, W1, false⟩
  have pinY : ∀ b o, s1.heap.get? b = some o → b ≠ a → Y.pin b = some o := fun b o q z => by
    have e1 : ¬ (b = s1.heap.objs.size ∨ b = h2'.objs.size ∨ b = a) := by
      rintro (w | w | w)
      · rw [w, n1] at q; cases q
      · rw [w, n2] at q; cases q
      · exact z w
    exact (if_neg e1).trans (hk3 b o (hk2 b o q))
  have cellv : ∀ y c, cl.lookup y = some c → ∃ o v, h3.get? c = some o ∧ o.data = .cell v := fun y c q => F3.f.cells y c (hcl1 y c q)
  have SY : FS G d Y := by
    refine ⟨S.g, fun b o q => pinY b o (p1.f.keep S b o q) fun z => ?_, S.hd, S.dp, S.un, ?_, ?_, ?_, cN, fun y q => ?_, ?_, ?_⟩
    · have := S.base b o q; rw [z, f1.pin] at this; cases this
    · show cenv.scope.kind = _; rw [← hce]; exact hc.kind
    · show cenv.globals = _; rw [← hce]; exact S.gl
    · show cenv.builtins = _; rw [← hce]; exact S.bi
    · show ∃ c, cenv.cells.lookup y = some c
      rw [cC]; exact Option.isSome_iff_exists.mp (hcl2 (y, .free) (mem_of_lookup (hc.cells q)) rfl)
    · intro y z c hy hz
      have hy : cenv.cells.lookup y = some c := hy
      have hz : cenv.cells.lookup z = some c := hz
      rw [cC] at hy hz
      exact S.inj y z c (hcl1 y c hy) (hcl1 z c hz)
    · intro y z j hy hz
      have hy : ((x, i) :: X.fi.tbl).lookup y = some j := hy
      have hz : ((x, i) :: X.fi.tbl).lookup z = some j := hz
      rw [List.lookup_cons] at hy hz
      split at hy <;> split at hz
      · rename_i q1 _ q2; rw [beq_iff_eq.mp q1, beq_iff_eq.mp q2]
      · cases hy; exact absurd rfl (hc.new z _ hz)
      · cases hz; exact absurd rfl (hc.new y _ hy)
      · exact S.ti y z j hy hz
  have FY : At Y W1 (fun _ => []) { s1 with heap := h3, toks := s1.toks + ([] : List (Str × Value)).length } ((shr ρ₁).set i none) := by
    refine ⟨F3.gens, F3.os, ⟨fun b o q => ?_, ?_, F3.f.wf, fun _ _ _ q => q, fun _ _ _ q => (by cases q), ?_, fun y c q => ?_⟩, fun y j hy o ho hkd => ?_, fun _ _ q => (by cases q)⟩
    · have q : (if b = s1.heap.objs.size ∨ b = h2'.objs.size ∨ b = a then none else h3.get? b) = some o := q
      split at q
      · cases q
      · exact q
    · rintro b (q | ⟨q, _⟩ | ⟨_, q⟩)
      · have q : b = h2'.objs.size := q.trans cL
        exact ⟨if_pos (.inr (.inl q)), fun w => fC.w (q ▸ w)⟩
      · cases q
      · cases q
    · obtain ⟨o, es, ep, e1, e2, e3, _⟩ := hns
      exact ⟨o, es, ep, (show h3.get? cenv.locals = _ by rw [cL]; exact e1), e2, e3⟩
    · have q : cenv.cells.lookup y = some c := q
      rw [cC] at q; exact cellv y c q
    · have hy : ((x, i) :: X.fi.tbl).lookup y = some j := hy
      have hkd : (X.fi.inner sc x i).names.lookup y ≠ none := by
        have hkd : cenv.kindOf y ≠ none := hkd
        unfold Env.kindOf at hkd; rw [cN] at hkd; exact hkd
      rw [List.lookup_cons] at hy
      split at hy
      · cases hy
        rw [List.getElem?_set] at ho
        split at ho
        · split at ho <;> cases ho
        · rename_i q; exact absurd rfl q
      · rename_i q
        have hj : j ≠ i := hc.new y j hy
        rw [List.getElem?_set_ne (Ne.symm hj)] at ho
        obtain ⟨v, rfl, ho2⟩ := shr_get ho
        have hfree := hc.isFree (fun e => by rw [e, beq_self_eq_true] at q; cases q) hy hkd
        have hout := hc.free hfree
        have hk2 : X.env.kindOf y ≠ none := by rw [S.kind]; rcases hout with z | z <;> rw [z] <;> simp
        obtain ⟨v', a1, a2⟩ := F3.lr y j hy _ ho2 hk2
        refine ⟨v', ?_, rfl, a2.2⟩
        rcases a1 with ⟨b1, _⟩ | ⟨b1, c, b2, b3⟩
        · rw [S.kind] at b1; rcases hout with z | z <;> rw [z] at b1 <;> cases b1
        · have hcy : cl.lookup y = some c := by
            obtain ⟨c', hc'⟩ := Option.isSome_iff_exists.mp (hcl2 (y, .free) (mem_of_lookup hfree) rfl)
            have := hcl1 y c' hc'
            rw [b2] at this; cases this; exact hc'
          refine .inr ⟨?_, c, (show cenv.cells.lookup y = _ by rw [cC]; exact hcy), b3⟩
          show cenv.kindOf y = _ ∨ cenv.kindOf y = _
          unfold Env.kindOf; rw [cN, relab_lookup, hfree]
          by_cases z : (NameKind.free == NameKind.free && X.fi.names.lookup y == some .cell) = true
          · left; exact congrArg some (if_pos z)
          · right; exact congrArg some (if_neg z)
  have fY : ∀ b, Fre X W1 φ1 b → (b = s1.heap.objs.size ∨ b = h2'.objs.size ∨ b = a) → b ≠ h2'.objs.size → Fre Y W1 (fun _ => []) b := fun b f q hb => by
    refine ⟨if_pos q, f.w, ?_, fun y z => ?_⟩
    · rintro (z | ⟨z, _⟩ | ⟨_, z⟩)
      · exact hb (z.trans cL)
      · cases z
      · cases z
    · have z : cenv.cells.lookup y = some b := z
      rw [cC] at z
      exact f.nc y (hcl1 y b z)
  have I3 : ItR W1 h3 a l := I1.ag (g3.g.ag p1.f.f.wf) ((hk3 _ _ (hk2 _ _ hio)).trans hio.symm)
  have O3 : OwnAt W1 h3 s1.heap.objs.size [] := ⟨_, _, ha3, rfl, Nat.zero_le _⟩
  have hxl : (X.fi.inner sc x i).names.lookup x = some .local := by
    show (relab _ _).lookup x = _
    rw [relab_lookup, hc.own]; rfl
  have hxo : (X.fi.inner sc x i).isOwn x i = true := by
    unfold FI.isOwn
    rw [hxl, show (X.fi.inner sc x i).tbl.lookup x = some i by show List.lookup x ((x, i) :: _) = _; rw [List.lookup_cons, beq_self_eq_true], beq_self_eq_true]; rfl
  have loop : codeAny X.C.M X.A (.compLoop (.ListComp elt [⟨.Name x px, it.x, cs, 0⟩] sc pos) 0 (.ref a) (.ref s1.heap.objs.size) cenv) (compPost X.C.M X.A E use Q (.ref s1.heap.objs.size) h2'.objs.size) { s1 with heap := h3, toks := s1.toks + ([] : List (Str × Value)).length } := by
    refine comp_loop hxo hxl h2 (X := Y) rfl SY (fun _ => rfl) FY (fY a f1 (.inr (.inr rfl)) itC) I3 (fY _ fa (.inl rfl) aC) ita O3 (by simpa using hr) fun W' φ' s' ρ' A' B' fa' O' => ?_
    have A2 := A'.f
    obtain ⟨A4, B4, V4⟩ := p1.f.move (D := (· = a)) (W' := W') (h' := s'.heap) (t := s'.toks) (fun b q => q ▸ f1) (fun b o q z => A2.pin b o (pinY b o z q)) (fun b q => B'.w b q) A2.wf fun b o q z w => A2.w0 b o (pinY b o z q) w
    have A5 : At X W' φ1 s' ρ₁ := ⟨A'.gens, A'.os, A4.f, A4.lr, A4.ow⟩
    have nm : ∀ b, Fre X W1 φ1 b → ¬ W' b → Fre X W' φ1 b := fun b f w => ⟨f.pin, w, f.mu, f.nc⟩
    refine k _ _ W' φ1 s' ⟨A5, p1.ag.trans B4, fun y v q => V4 y v (p1.vl y v q)⟩ (nm _ fC (A2.mu _ (.inl cL.symm)).2) ?_ aC (nm _ fa fa'.w) (by rw [List.append_nil] at O'; exact O')
    obtain ⟨o, es, ep, e1, e2, e3⟩ := A2.ns
    have e1 : s'.heap.get? cenv.locals = some o := e1
    rw [cL] at e1
    exact ⟨fun y => nsFind es y, o, es, ep, e1, e2, e3, fun _ => rfl⟩
  exact codeAny_compStart_list loop (I3.self (s := { s1 with heap := h3, toks := s1.toks + ([] : List (Str × Value)).length }) loop)
theorem comp_left {X : FC} {W W' : WS} {φ' : Nat → List Addr} {s s' : Shared} {ρ₁ : Loc} {C acc : Addr} {r : List V} {h' : Heap} (p : Pst X W s W' φ' s' ρ₁) (fC : Fre X W' φ' C) (hne : acc ≠ C) (fa : Fre X W' φ' acc) (O : OwnAt W' s'.heap acc r) (hs : Heap.SameBut C s'.heap h') :
    Pst X W s W' φ' { s' with heap := h' } ρ₁ ∧ RO X W' φ' h' (.own r) (.ref acc) := by
  obtain ⟨A, B, V⟩ := p.f.loose fC (t := s'.toks) fun b o q e => (hs.2 b q).trans e
  refine ⟨⟨A, p.ag.trans B, fun x v q => V x v (p.vl x v q)⟩, [acc], ⟨acc, rfl, rfl, O.ag B (hs.2 acc hne)⟩, fun b q => ?_⟩
  cases List.mem_singleton.mp q
  exact ⟨fa.w, fa.mu, fa.pin⟩
noncomputable def CompS (G : Gl) (d : Nat) (fi : FI) (elt : Expr) (i : Nat) (l : List V) (ρ : Loc) (vs : List V) : Prop := CompL G d fi elt i ((shr ρ).set i none) l vs ∧ l.length ≤ room
noncomputable def CompT (G : Gl) (d : Nat) (fi : FI) (cs : List Expr) (elt : Expr) (i : Nat) (l : List V) (ρ : Loc) (vs : List V) : Prop := CompI G d fi cs elt i ((shr ρ).set i none) l vs ∧ l.length ≤ room
noncomputable def evComp (it : It G d fi) (cs : List Expr) (elt : Expr) (fi' : FI) (i : Nat) (σ : St) : Option (O × St) := bd (it.ev σ) fun l σ => told Tk.vs? (fun ρ vs => CompT G d fi' cs elt i l ρ vs) (fun vs => O.own vs.reverse) (fun _ ρ => ρ) σ
theorem evComp_ok {it : It G d fi} {cs : List Expr} {elt : Expr} {fi' : FI} {i : Nat} : Ok (evComp it cs elt fi' i) fun ρ o ρ' => ∃ l vs, ItG G d fi it.x ρ l ρ' ∧ CompT G d fi' cs elt i l ρ' vs ∧ o = .own vs.reverse :=
  it.eo.bd (R := fun l ρ o ρ' => ∃ vs, CompT G d fi' cs elt i l ρ vs ∧ o = .own vs.reverse ∧ ρ = ρ') (fun l => .told fun vs ρ q => ⟨vs, q, rfl, rfl⟩) fun _ l _ _ _ h q => by
    obtain ⟨vs, q1, q2, rfl⟩ := q; exact ⟨l, vs, h, q1, q2⟩
noncomputable def eCompI (x : Str) (i : Nat) (px : Pos) (it : It G d fi) (sc : Scope) (cs : List Expr) (elt : T G d (fi.inner sc x i)) (pos : Pos) (h : compOk fi sc x i = true) : T G d fi :=
  .mk' (.ListComp elt.x [⟨.Name x px, it.x, cs, 0⟩] sc pos) (evComp it cs elt.x (fi.inner sc x i) i) rfl (evComp_ok.mono fun ρ o ρ' q X E W φ s e S F Q k => by
    obtain ⟨l, vs, h1, h2, rfl⟩ := q
    rw [eval_ListComp]
    refine comp_core (use := none) (it := it) (.of h) h1 h2.1 h2.2 e S F fun acc C W' φ' s' p fC hn hne fa O => ?_
    obtain ⟨m, hn⟩ := hn
    refine ⟨m, hn, fun h' hs => ?_⟩
    obtain ⟨p2, r⟩ := comp_left p fC hne fa O hs
    exact k _ _ _ _ p2 r) fun _ => rfl
noncomputable def eComp (x : Str) (i : Nat) (px : Pos) (it : It G d fi) (sc : Scope) (elt : T G d (fi.inner sc x i)) (pos : Pos) (h : compOk fi sc x i = true) : T G d fi := eCompI x i px it sc [] elt pos h
noncomputable def sAsgI (y : Str) (j : Nat) (p' p : Pos) (x : Str) (i : Nat) (px : Pos) (it : It G d fi) (sc : Scope) (cs : List Expr) (elt : T G d (fi.inner sc x i)) (pos : Pos)
    (h : (compOk fi sc x i && fi.isOwn y j && (fi.names.lookup y == some .local && p'.line == pos.line && !(sc.names.any fun (n, k) => n == y && (k == .local || k == .cell)))) = true) : SS G d fi :=
  ⟨.Assign [.Name y p'] (.ListComp elt.x [⟨.Name x px, it.x, cs, 0⟩] sc pos) p, fun σ => bd (evComp it cs elt.x (fi.inner sc x i) i σ) fun o σ => setL j o σ,
  evComp_ok.bd (R := fun o ρ fl ρ' => fl = .next ∧ ρ' = ρ.set j (some o)) (fun _ => .setL fun _ => ⟨rfl, rfl⟩) fun ρ o ρ₁ fl ρ' q q' X E W φ s e c S F Q k => by
    obtain ⟨l, vs, h1, h2, rfl⟩ := q
    obtain ⟨rfl, rfl⟩ := q'
    rw [Bool.and_eq_true, Bool.and_eq_true] at h
    have hsw : swapsWith (.ListComp elt.x [⟨.Name x px, it.x, cs, 0⟩] sc pos) (some (.Name y p')) p.line X.env = pure true := by
      show (pure (X.env.blockKind == .function && X.env.kindOf y == some .local && p'.line == pos.line && !(sc.names.any fun (n, k) => n == y && (k == .local || k == .cell))) : Sem Bool) = _
      rw [S.kind, e, show X.env.blockKind = .function by unfold Env.blockKind; rw [S.fn]; rfl, beq_self_eq_true, Bool.true_and, h.2]
    rw [exec_Assign_Name_used _ _ _ _ hsw]
    refine wpAny_bind (wpAny_standAt (wpAny_bind ?_))
    show wpAny _ X.A (do let _ ← comprehension (.ListComp elt.x [⟨.Name x px, it.x, cs, 0⟩] sc pos) sc X.env _ (newList []) false (eval it.x X.env) (some (assign (.Name y p') X.env))) _ _ s
    refine wpAny_bind (wpAny_mono (comp_core (use := some (assign (.Name y p') X.env)) (Q := fun _ s' => Q .next s') (it := it) (.of h.1.1) h1 h2.1 h2.2 e S F fun acc C W' φ' s' p2 fC hn hne fa O => ?_) (fun _ s' hq => wpAny_pure (wpAny_pure hq)) fun _ _ e => e)
    obtain ⟨m, hn⟩ := hn
    obtain ⟨o, es, ep, e1, e2, e3, _⟩ := hn
    show wpAny _ X.A (assign (.Name y p') X.env (.ref acc)) _ _ _
    have ro : RO (X.pinned C o) W' φ' s'.heap (.own vs.reverse) (.ref acc) := ⟨[acc], ⟨acc, rfl, rfl, O⟩, fun b q => by cases List.mem_singleton.mp q; exact ⟨fa.w, fa.mu, by rw [FC.pinned_ne hne]; exact fa.pin⟩⟩
    refine wpAny_assign_Name (store_ok (X := X.pinned C o) (S.pinned fC.pin) (.inr c) (p2.f.pinned fC e1) ro (show X.fi.isOwn y j = true by rw [e]; exact h.1.2) fun φ2 s2 A B => ?_)
    obtain ⟨A2, fC2, e4⟩ := A.unpin fC.pin fC.nc
    refine ⟨fun y => nsFind es y, ⟨o, es, ep, e4, e2, e3, fun _ => rfl⟩, fun h' hs => ?_⟩
    obtain ⟨A3, B3, _⟩ := A2.loose fC2 (t := s2.toks) fun b o q e => (hs.2 b q).trans e
    exact k _ _ _ _ A3 ((p2.ag.trans B).trans B3) rfl⟩
noncomputable def sAsgC (y : Str) (j : Nat) (p' p : Pos) (x : Str) (i : Nat) (px : Pos) (it : It G d fi) (sc : Scope) (elt : T G d (fi.inner sc x i)) (pos : Pos)
    (h : (compOk fi sc x i && fi.isOwn y j && (fi.names.lookup y == some .local && p'.line == pos.line && !(sc.names.any fun (n, k) => n == y && (k == .local || k == .cell)))) = true) : SS G d fi := sAsgI y j p' p x i px it sc [] elt pos h
end
end Mine
end

section
open PySem
set_option autoImplicit false
set_option linter.unusedVariables false
namespace Mine
open PySem.W (Frag kitOne keepIn Looks)

theorem texts_reads {W : WS} {h : Heap} : ∀ {l : List V} {l' : List Value} {ss : List (List Nat)}, VRs W h l l' → textsOf l = some ss → (∃ as, ReadsAll h l' (ss.map fun z => PyData.str ⟨z.toArray⟩) as) ∧ PyData.canLayAll0 (ss.map fun z => PyData.str ⟨z.toArray⟩) = true ∧ PyData.depthAll (ss.map fun z => PyData.str ⟨z.toArray⟩) = 0
  | [], _, _, r, e => by cases r; cases e; exact ⟨⟨_, .nil⟩, rfl, rfl⟩
  | v :: l, _, _, r, e => by
    obtain ⟨v', r', rfl, rv, rl⟩ := VRs.inv r
    obtain ⟨z, e1, e⟩ := Option.bind_eq_some_iff.mp e
    obtain ⟨t, e2, e⟩ := Option.bind_eq_some_iff.mp e
    cases e
    rw [V.str_of e1] at rv
    obtain ⟨tk, rfl, ok, _⟩ := rv
    obtain ⟨⟨as, a⟩, b, c⟩ := texts_reads rl e2
    refine ⟨⟨_, .cons (.str _ tk) a⟩, ?_, ?_⟩
    · show (PyData.canLay0 (.str ⟨z.toArray⟩) && PyData.canLayAll0 _) = true
      rw [b, Bool.and_true]; simpa [PyData.canLay0] using ok
    · show max (PyData.depth (.str ⟨z.toArray⟩)) (PyData.depthAll _) = 0
      rw [c]; rfl
section
variable {G : Gl} {d : Nat} {fi : FI}
noncomputable def kIn (x : V) (y : O) : Option (Bool × List Prop) := y.val?.bind fun y => x.str?.bind fun z => y.tup?.bind fun l => (textsOf l).bind fun ss => some (ss.any fun t => t == z, [])
theorem primIn : PrimC G d .In kIn := by
  intro x y t ps e q X E W φ s ρ S F x' y' rx ry Q k
  obtain ⟨v, e1, e⟩ := Option.bind_eq_some_iff.mp e
  obtain ⟨z, e2, e⟩ := Option.bind_eq_some_iff.mp e
  obtain ⟨l, e3, e⟩ := Option.bind_eq_some_iff.mp e
  obtain ⟨ss, e4, e⟩ := Option.bind_eq_some_iff.mp e
  cases e; rw [O.val_of e1, V.tup_of e3] at ry; rw [V.str_of e2] at rx
  obtain ⟨tk, rfl, ok, _⟩ := rx
  obtain ⟨a, vs, n, rfl, _, h1, h2, h3⟩ := VR.tup ry
  obtain ⟨⟨as, ra⟩, b, c⟩ := texts_reads h3 e4
  refine SeqAt.in_tuple_reads (.tuple h1 rfl rfl ra) (.str _ tk) b (by simpa [PyData.canLay0] using ok) (by rw [c]; have := S.u; simp; omega) ?_
  have he : (ss.map fun z => PyData.str ⟨z.toArray⟩).any (fun y => PyData.eqv y (.str ⟨z.toArray⟩)) = ss.any fun t => t == z := by
    rw [List.any_map]
    congr 1
    funext t
    show PyData.eqv (.str ⟨t.toArray⟩) (.str ⟨z.toArray⟩) = (t == z)
    by_cases q : t = z
    · subst q; simp [PyData.eqv]
    · have q' : (t == z) = false := by simpa using q
      rw [q']
      simp [PyData.eqv, q]
  rw [he]; exact k s.toks
noncomputable def eIn : T G d fi → T G d fi → Pos → T G d fi := eCmp .In kIn primIn

noncomputable def eTell (a : T G d fi) : T G d fi :=
  have eo : Ok (fun σ => bd (a.ev σ) fun o σ => told Tk.r? (fun _ o' => o = o') id (fun _ ρ => ρ) σ) (EvG G d fi a.x) := a.eo.bd (R := fun o ρ o' ρ' => o = o' ∧ ρ = ρ') (fun o => Ok.told (f := Tk.r?) (p := fun _ o' => o = o') (r := id) (ρ := fun _ ρ => ρ) fun o' ρ q => ⟨q, rfl⟩) fun _ _ _ _ _ h q => by
    obtain ⟨rfl, rfl⟩ := q; exact h
  ⟨a.x, _, a.pk, a.tr, a.pl, eo, a.po, a.to⟩

noncomputable def namesAt (p : Program) (k : Nat) : List (Str × NameKind) := match p.main.body[k]? with
  | some (.FunctionDef _ _ _ _ _ _ sc _ _ _) => sc.names
  | _ => []
noncomputable def bodyAt (p : Program) (k : Nat) : List Stmt := match p.main.body[k]? with
  | some (.FunctionDef _ _ b _ _ _ _ _ _ _) => b
  | _ => []
noncomputable def obs {α : Type} (r : Option (α × St)) : List Prop := Option.casesOn r [] fun p => p.2.ob
noncomputable def out {α : Type} (r : Option (α × St)) : Option (α × Loc × List Tk) := r.bind fun p => some (p.1, p.2.ρ, p.2.tp)
theorem Ok.run {α : Type} {f : St → Option (α × St)} {S : Loc → α → Loc → Prop} (h : Ok f S) {ρ ρ' : Loc} {tp : List Tk} {a : α} {P : Prop} (e : out (f ⟨ρ, tp, []⟩) = some (a, ρ', [])) (o : All (obs (f ⟨ρ, tp, []⟩)) = P) (p : P) : S ρ a ρ' := by
  subst o
  obtain ⟨⟨a', ρ2, tp2, ob2⟩, e1, e2⟩ := Option.bind_eq_some_iff.mp e
  cases e2
  have : All ob2 := by rw [e1] at p; exact p
  exact (h _ _ _ e1 this).2
theorem call_run {a : Addr} {f : FD} {args : List V} {o : O} {n : Nat} {ρ' : Loc} {tp : List Tk} {P : Prop} (B : SL G d f.fi) (hf : G.fd.lookup a = some f) (hB : B.xs = f.st) (hn : args.length = f.ps.length)
    (e : out (B.ex ⟨loc0 args n, tp, []⟩) = some (.ret o, ρ', [])) (ob : All (obs (B.ex ⟨loc0 args n, tp, []⟩)) = P) (p : P) : CallOK G (d + 1) a args o :=
  call_of hf hn (hB ▸ B.eo.run e ob p) (.inl rfl)
end
end Mine
end

section
open PySem PySem.W
set_option autoImplicit false
set_option linter.unusedVariables false
namespace Mine
open PySem.W (Frag kitOne keepIn Looks)

theorem items_ints {R : WRecords} : ∀ {xs : List WData}, WShape.hasItems R xs .int = true → ∃ ns : List Int, xs = ns.map .int
  | [], _ => ⟨[], rfl⟩
  | x :: xs, h => by
    simp only [WShape.hasItems, Bool.and_eq_true] at h
    obtain ⟨i, rfl⟩ := hasW_int h.1
    obtain ⟨ns, rfl⟩ := items_ints h.2
    exact ⟨i :: ns, rfl⟩
theorem law_args {l : OpenLaw} (hm : l.most = some 63) (hb : l.bound = none) {args : List WData} (hpre : l.row.toRowW.claim.pre args = true) : ∃ ns : List Int, args = [.list (ns.map .int)] ∧ ns.length ≤ 63 := by
  obtain ⟨h1, h2⟩ := pre_splitW hpre
  obtain ⟨d, r, rfl, h3, h4⟩ := hasAllW_cons (e := .list .int) (es := []) h1
  obtain rfl := hasAllW_nil h4
  obtain ⟨xs, rfl, h5⟩ := hasW_list h3
  obtain ⟨ns, rfl⟩ := items_ints h5
  refine ⟨ns, rfl, ?_⟩
  have h2' : l.pre.holds [] { args := [.list (ns.map .int)] } = true := h2
  unfold OpenLaw.pre at h2'
  rw [hm, hb] at h2'
  by_cases q : ns.length ≤ 63
  · exact q
  · exfalso
    have hl : less? (WData.int 63) (WData.int (ns.length : Int)) = some true := by
      simp [less?, Num.less?]; omega
    simp [WTm.holds, WTm.value, hl] at h2'
theorem reads_ints {W : WS} {h : Heap} {P : Params} : ∀ {ns : List Int} {vs : List Value}, WellAll P h vs (ns.map .int) → VRs W h (ns.map .int) vs
  | [], _, .nil => rfl
  | n :: ns, _, .cons h r => by cases h with | int i t => exact .cons ⟨t, rfl⟩ (reads_ints r)

noncomputable def codeChk (K : Frag) (cd : Value) (q : Str) : Bool := match cd with
  | .ref c => (match K.lookup c with
    | some o => (match o.data with
      | .fields vs => (match (vs[1]? : Option Value) with
        | some (.str z _) => z == q
        | _ => false)
      | _ => false)
    | none => false)
  | _ => false
theorem codeChk_of {K : Frag} {h : Heap} (X : K.In h) {cd : Value} {q : Str} (e : codeChk K cd q = true) : h.CodeRec cd q := by
  unfold codeChk at e
  split at e
  · split at e
    · rename_i o ho
      split at e
      · rename_i vs hd
        split at e
        · rename_i z t hz
          rw [beq_iff_eq.mp e] at hz
          exact ⟨_, o, vs, t, rfl, X _ _ ho, hd, hz⟩
        · cases e
      · cases e
    · cases e
  · cases e
noncomputable def fdOf (K : Frag) (a : Addr) : Option FuncData := (K.lookup a).bind fun o => match o.data with
  | .func fd => some fd
  | _ => none
noncomputable def fdChk (K : Frag) (f : FD) (fd : FuncData) : Bool :=
  fd.closure.isEmpty && fd.globals == mainGlobals && fd.builtins == builtinsNs && !fd.scope.isCoroutine && !fd.scope.isGenerator && fd.scope.kind == .function && codeChk K fd.code fd.qualname &&
  fd.params.posonlyargs.isEmpty && fd.params.args.map (·.arg) == f.ps && fd.params.vararg.isNone && fd.params.kwonlyargs.isEmpty && fd.params.kwarg.isNone && fd.defaults == .none &&
  decide f.ps.Nodup && (f.ps.all fun p => f.fi.names.lookup p == some .local || f.fi.names.lookup p == some .cell) && (f.fi.names.all fun x => x.2 != .free) &&
  (f.ps.zipIdx.all fun x => f.fi.tbl.lookup x.1 == some x.2) && decide ((f.fi.tbl.map (·.2)).Nodup)
noncomputable def bodyIs (K : Frag) (a : Addr) : Option (FuncBody × List (Str × NameKind)) := (fdOf K a).bind fun fd => some (fd.body, fd.scope.names)
structure FnAt (K : Frag) (a : Addr) (f : FD) : Prop where
  body : bodyIs K a = some (.stmts f.st, f.fi.names)
  chk : (Option.casesOn (fdOf K a) false fun fd => fdChk K f fd : Bool) = true
theorem zip_lookup : ∀ (ps : List Str) (vals : List Value), ps.Nodup → vals.length = ps.length → (ps.filterMap fun n => ((ps.zip vals).lookup n).map (n, ·)) = ps.zip vals := by
  have key : ∀ (ps : List Str) (vals : List Value) (pre : List (Str × Value)), (∀ p ∈ ps, pre.lookup p = none) → ps.Nodup → vals.length = ps.length → (ps.filterMap fun n => ((pre ++ ps.zip vals).lookup n).map (n, ·)) = ps.zip vals := by
    intro ps
    induction ps with
    | nil => intro vals pre _ _ _; rfl
    | cons p ps ih =>
      intro vals pre hpre hn hl
      cases vals with
      | nil => cases hl
      | cons v vals =>
        rw [List.zip_cons_cons, List.filterMap_cons]
        have e : ((pre ++ (p, v) :: ps.zip vals).lookup p).map (p, ·) = some (p, v) := by
          rw [List.lookup_append, hpre p List.mem_cons_self]; simp
        rw [e]
        have := ih vals (pre ++ [(p, v)]) (fun q hq => ?_) (List.nodup_cons.mp hn).2 (by simpa using hl)
        · rw [List.append_assoc] at this
          simp only [List.singleton_append] at this
          rw [this]
        · rw [List.lookup_append, hpre q (List.mem_cons_of_mem _ hq)]
          have hne : (q == p) = false := by
            rw [beq_eq_false_iff_ne]; rintro rfl; exact (List.nodup_cons.mp hn).1 hq
          simp [List.lookup_cons, hne]
  intro ps vals hn hl
  have := key ps vals [] (fun _ _ => rfl) hn hl
  simpa using this
theorem zip_some : ∀ (ps : List Str) (vals : List Value), vals.length = ps.length → ∀ p ∈ ps, ((ps.zip vals).lookup p).isSome = true
  | [], _, _, p, h => by cases h
  | q :: ps, [], hl, _, _ => by cases hl
  | q :: ps, v :: vals, hl, p, h => by
    rw [List.zip_cons_cons, List.lookup_cons]
    split
    · rfl
    · rename_i z
      rcases List.mem_cons.mp h with r | r
      · rw [r, beq_self_eq_true] at z; cases z
      · exact zip_some ps vals (by simpa using hl) p r
theorem bind_plain {fd : FuncData} {as : List Arg} {d : List Expr} {kd : List (Option Expr)} (hp : fd.params = { posonlyargs := [], args := as, vararg := none, kwonlyargs := [], kw_defaults := kd, kwarg := none, defaults := d }) (hd : fd.defaults = .none)
    (hn : (as.map (·.arg)).Nodup) (vals : List Value) (hl : vals.length = (as.map (·.arg)).length) : bindArgs fd ⟨vals, []⟩ = pure ((as.map (·.arg)).zip vals) := by
  have hmiss : ((as.map (·.arg)).filter fun n => (((as.map (·.arg)).zip vals).lookup n).isNone) = [] := by
    rw [List.filter_eq_nil_iff]
    intro p hp q
    have := zip_some (as.map (·.arg)) vals hl p hp
    cases z : ((as.map (·.arg)).zip vals).lookup p with
    | none => rw [z] at this; cases this
    | some v => rw [z] at q; cases q
  have hseq : seqItems? Value.none = pure none := rfl
  have hz := zip_lookup (as.map (·.arg)) vals hn hl
  unfold bindArgs
  rw [hp, hd, hseq]
  have hle : ¬ vals.length > (as.map (·.arg)).length := by omega
  simp only [List.map_nil, List.nil_append, List.forIn_nil, pure_bind, Option.getD_none, List.length_nil, Nat.zero_sub, List.drop_nil, Nat.sub_zero, List.zip_nil_right, List.append_nil, List.take_length]
  simp [hmiss, hz]
  intro q
  rw [List.length_map] at hl
  omega
theorem fn_of {C : Cx} {a : Addr} {f : FD} (X : C.K.In C.h) (h : FnAt C.K a f) : ∃ o fd, FnOk C a f o fd := by
  have h0 := h.body
  unfold bodyIs fdOf at h0
  obtain ⟨fd, e1, e2⟩ := Option.bind_eq_some_iff.mp h0
  obtain ⟨o, ho, e4⟩ := Option.bind_eq_some_iff.mp e1
  have hfd : fdOf C.K a = some fd := e1
  have hc := h.chk
  rw [hfd] at hc
  have h : fdChk C.K f fd = true := hc
  obtain ⟨b1, b2⟩ := Prod.mk.inj (Option.some.inj e2)
  split at e4
  · rename_i fd' hd
    cases e4
    unfold fdChk at h
    simp only [Bool.and_eq_true, Bool.not_eq_true', beq_iff_eq, decide_eq_true_eq, List.isEmpty_iff, Option.isNone_iff_eq_none, List.all_eq_true, Bool.or_eq_true, bne_iff_ne, ne_eq] at h
    obtain ⟨⟨⟨⟨⟨⟨⟨⟨⟨⟨⟨⟨⟨⟨⟨⟨⟨h2, h3⟩, h4⟩, h5⟩, h6⟩, h7⟩, h8⟩, h9⟩, h10⟩, h11⟩, h12⟩, h13⟩, h14⟩, h16⟩, h17⟩, h18⟩, h19⟩, h20⟩ := h
    refine ⟨o, fd, ⟨X _ _ ho, hd, b1, h2, h3, h4, h5, h6, h7, codeChk_of X h8, ?_, h16, b2, h17, h18, ?_, ?_⟩⟩
    · intro vals hl
      rw [← h10] at hl h16 ⊢
      refine bind_plain (as := fd.params.args) (d := fd.params.defaults) (kd := fd.params.kw_defaults) ?_ h14 h16 vals hl
      generalize fd.params = pp at h9 h11 h12 h13
      obtain ⟨a1, a2, a3, a4, a5, a6, a7⟩ := pp
      dsimp only at h9 h11 h12 h13
      subst h9 h11 h12 h13; rfl
    · intro i p hp
      exact h19 (p, i) (by rw [List.mem_zipIdx_iff_getElem?]; simpa using hp)
    · intro y z j hy hz
      have m1 := mem_of_lookup hy
      have m2 := mem_of_lookup hz
      obtain ⟨a, la, ea⟩ := List.getElem_of_mem m1
      obtain ⟨b, lb, eb⟩ := List.getElem_of_mem m2
      have : (f.fi.tbl.map (·.2))[a]'(by simpa using la) = (f.fi.tbl.map (·.2))[b]'(by simpa using lb) := by
        rw [List.getElem_map, List.getElem_map, ea, eb]
      have hab : a = b := (List.getElem_inj h20).mp this
      subst hab
      rw [ea] at eb
      exact (Prod.mk.inj eb).1
  · cases e4

noncomputable def topOf (K : Frag) : Array DictEntry := match K.lookup mainGlobals with
  | some o => (match o.data with
    | .dict es _ => es
    | _ => #[])
  | none => #[]
noncomputable def isTop (K : Frag) : Bool := match K.lookup mainGlobals with
  | some o => (match o.data with
    | .dict _ _ => true
    | _ => false)
  | none => false
theorem top_of {K : Frag} {h : Heap} {mg : Str → Option Value} (X : K.In h) (g : h.Ns mainGlobals mg) (e : isTop K = true) (x : Str) : mg x = nsFind (topOf K) x := by
  obtain ⟨o, es, ep, h1, h2, h3, h4⟩ := g
  unfold isTop at e
  split at e
  · rename_i o' ho
    split at e
    · rename_i es' ep' hd
      have h1' := X _ _ ho
      rw [h1] at h1'
      cases h1'
      rw [hd] at h2
      cases h2
      unfold topOf
      rw [ho]
      dsimp only
      rw [hd]
      exact (h4 x).symm
    · cases e
  · cases e
theorem mem_fd {a : Addr} {f : FD} : ∀ {l : List (Addr × FD)}, l.lookup a = some f → (a, f) ∈ l
  | [], e => nomatch e
  | (b, g) :: l, e => by
    rw [List.lookup_cons] at e
    split at e
    · rename_i q; cases e; rw [beq_iff_eq.mp q]; exact List.mem_cons_self
    · exact List.mem_cons_of_mem _ (mem_fd e)
structure GChk (G : Gl) (K : Frag) : Prop where
  top : isTop K = true
  fn : (G.fn.all fun x => nsFind (topOf K) x.1 == some (.ref x.2) && keepIn K (.ref x.2)) = true
  bn : (G.bn.all fun x => nsFind (topOf K) x == none && x != "__name__") = true
  isi : (([.none, .bool, .int, .str, .tup, .list] : List Kd).all fun k => G.ty.all fun t => kitOne K k.v (.type t.n) == some (isiK k t)) = true
  fd : ∀ a f, (a, f) ∈ G.fd → FnAt K a f
theorem GChk.ok {G : Gl} {C : Cx} (c : GChk G C.K) (X : C.K.In C.h) (g : C.h.Ns mainGlobals C.mg) (b : C.h.Ns builtinsNs C.mb) (bi : ∀ x : Str, x ≠ "__name__" → C.mb x = bootBuiltins x) (nl : C.h.NoLimit) : GOk G C where
  X := X
  g := g
  b := b
  bi := bi
  nolimit := nl
  isi := fun k t ht => beq_iff_eq.mp (List.all_eq_true.mp (List.all_eq_true.mp c.isi k (by cases k <;> decide)) t ht)
  bn := fun x hx => by
    have := List.all_eq_true.mp c.bn x hx
    rw [Bool.and_eq_true, beq_iff_eq, bne_iff_ne] at this
    rw [top_of X g c.top]; exact this
  fn := fun x a hx => by
    have := List.all_eq_true.mp c.fn _ (mem_of_lookup hx)
    rw [Bool.and_eq_true, beq_iff_eq] at this
    rw [top_of X g c.top]; exact this
  fd := fun a f hf => fn_of X (c.fd a f (mem_fd hf))

theorem join {l : OpenLaw} {q : Program} {loose : List Str} {XP : (Str → Option Value) → Heap → Prop} {K : Params → Frag} {as' : List Addr} {e' : ∀ P, as' = (K P).map (·.1)} {d : DefRec} {kwd : List (Str × Expr)} (G : Gl) (a : Addr) (dep : Nat)
    (hm : l.most = some 63) (hb : l.bound = none) (hname : G.fn.lookup d.name = some a) (hdep : dep ≤ 100)
    (chk : ∀ P, GChk G (K P))
    (law : ∀ ns : List Int, ns.length ≤ 63 → CallOK G dep a [.lst (ns.map .int)] (.val (.bool true))) :
    WalkO q loose XP (kHook K as' e').says l.row.toRowW d kwd fun f vs => PySem.call f vs := by
  intro w s₀ s₁ mg mb G' Y fa o pm cd doc dV kV ho hd hcd hD hmg hg args vals as hpre hlay hrd hwl hlo
  have KX := kIn_of Y
  obtain ⟨ns, rfl, hlen⟩ := law_args hm hb hpre
  cases hwl with | cons hw1 hw2 =>
  cases hw2
  cases hw1 with | @list b vs xs hob hitems =>
  let C : Cx := ⟨K w.params, s₁.heap, s₁.os, l.row.toRowW.prog, w, mg, mb⟩
  have g : GOk G C := GChk.ok (C := C) (chk w.params) KX G'.T.g G'.T.b G'.T.builtins G'.T.nolimit
  have hfa : fa = a := by
    have z : some (Value.ref fa) = some (Value.ref a) := hmg.symm.trans (g.fn _ _ hname).1
    cases z; rfl
  subst hfa
  have hz : (ns.map V.int).length ≤ sizeLine := by rw [List.length_map, sizeLine_eq]; omega
  have rv : VRs (fun x => x = b) s₁.heap [.lst (ns.map .int)] [.ref b] := .cons ⟨b, vs.toArray, 0, rfl, rfl, hob, hz, (List.toList_toArray (as := vs)).symm ▸ reads_ints hitems⟩ rfl
  refine wpAny_call (law ns hlen C callerA _ s₁ [.ref b] _ g rfl (by show 1 + 300 + 2 * dep + 9 ≤ 1000; omega) (by show 4 + 20 * dep + 2000 + 90 < 9900; omega) (fun _ _ e => e) hg rfl (fun x q => ⟨_, q ▸ hob⟩) rv fun v' W' s' gs r => ?_)
  cases r
  refine GoodW.toG ⟨.inl ⟨.bool true, .bool true, [], rfl, ?_, .bool true, ?_, ?_⟩, gs.g.k, gs.os, gs.gens.trans hg⟩
  · intro cls; rfl
  · show (WShape.has [] (.bool true) .bool && WTm.holds [] (.eq .res (.lit (.bool true))) { args := _, res := some (.bool true), after := _ }) = true
    simp [WShape.has, WShape.arms, WTm.holds, WTm.value, same]
  · intro _; exact ⟨List.nodup_nil, fun a ha => by cases ha⟩
end Mine
end

section
open PySem
set_option autoImplicit false
set_option linter.unusedVariables false
namespace Mine
section
variable {G : Gl} {d : Nat} {fi : FI}
noncomputable def res (r : Option (Fl × St)) : Option O := r.bind fun p => Fl.casesOn p.1 none fun o => List.casesOn p.2.tp (some o) fun _ _ => none
theorem res_of {r : Option (Fl × St)} {o : O} (e : res r = some o) : ∃ ρ ob, r = some (.ret o, ⟨ρ, [], ob⟩) := by
  obtain ⟨⟨f, ρ, tp, ob⟩, e1, e⟩ := Option.bind_eq_some_iff.mp e
  cases f with
  | next => cases e
  | ret o' =>
    cases tp with
    | nil => cases e; exact ⟨ρ, ob, e1⟩
    | cons => cases e
theorem call_go {a : Addr} {f : FD} {args : List V} {o : O} {n : Nat} {tp : List Tk} {P : Prop} (B : SL G d f.fi) (hf : G.fd.lookup a = some f) (hB : B.xs = f.st) (hn : args.length = f.ps.length)
    (e : res (B.ex ⟨loc0 args n, tp, []⟩) = some o) (ob : All (obs (B.ex ⟨loc0 args n, tp, []⟩)) = P) (p : P) : CallOK G (d + 1) a args o := by
  obtain ⟨ρ, o', h⟩ := res_of e
  subst ob
  have q : All o' := by rw [h] at p; exact p
  exact call_of hf hn (hB ▸ (B.eo _ _ _ h q).2) (.inl rfl)
section
variable {c : T G d fi} {b : SL G d fi} {ρ ρ' ρ'' : Loc} {fl : Fl} {tp : List Tk} {P : Prop}
theorem whil_go (f : Bool) (e : out (turn c b f ⟨ρ, tp, []⟩) = some (some .next, ρ', [])) (o : All (obs (turn c b f ⟨ρ, tp, []⟩)) = P) (p : P) (h : WhilOK G d fi c.x b.xs ρ' fl ρ'') : WhilOK G d fi c.x b.xs ρ fl ρ'' :=
  (turn_ok c b f).run e o p fl ρ'' h
theorem whil_end (f : Bool) (e : out (turn c b f ⟨ρ, tp, []⟩) = some (none, ρ', [])) (o : All (obs (turn c b f ⟨ρ, tp, []⟩)) = P) (p : P) : WhilOK G d fi c.x b.xs ρ .next ρ' :=
  (turn_ok c b f).run e o p .next ρ' ⟨rfl, rfl⟩
theorem for_go {x : Str} {p' : Pos} {i : Nat} {v : V} {l : List V} (hx : fi.isOwn x i = true) (e : out (b.ex ⟨ρ.set i (some (.val v)), tp, []⟩) = some (.next, ρ', [])) (o : All (obs (b.ex ⟨ρ.set i (some (.val v)), tp, []⟩)) = P) (p : P)
    (h : ForOK G d fi (.Name x p') b.xs l ρ' fl ρ'') : ForOK G d fi (.Name x p') b.xs (v :: l) ρ fl ρ'' :=
  (for_ok hx b v l).run (ρ := ρ) e o p fl ρ'' h
theorem comp_nil {elt : Expr} {i : Nat} : CompL G d fi elt i ρ [] [] := rfl
theorem comp_go {elt : T G d fi} {i : Nat} {v : V} {l vs : List V} {o : O} (e : out (elt.ev ⟨ρ.set i (some (.val v)), tp, []⟩) = some (o, ρ.set i (some (.val v)), [])) (ob : All (obs (elt.ev ⟨ρ.set i (some (.val v)), tp, []⟩)) = P) (p : P)
    (h : CompL G d fi elt.x i ρ l vs) : CompL G d fi elt.x i ρ (v :: l) (o.frz :: vs) := .inl ⟨_, _, rfl, rfl, (elt.eo.run e ob p).v, h⟩
theorem comp_keep {c elt : T G d fi} {i : Nat} {v : V} {l vs : List V} {o : O} {tp' : List Tk} {P' : Prop} (e' : out (c.tr ⟨ρ.set i (some (.val v)), tp', []⟩) = some (true, ρ.set i (some (.val v)), [])) (ob' : All (obs (c.tr ⟨ρ.set i (some (.val v)), tp', []⟩)) = P') (p' : P')
    (e : out (elt.ev ⟨ρ.set i (some (.val v)), tp, []⟩) = some (o, ρ.set i (some (.val v)), [])) (ob : All (obs (elt.ev ⟨ρ.set i (some (.val v)), tp, []⟩)) = P) (p : P)
    (h : CompI G d fi [c.x] elt.x i ρ l vs) : CompI G d fi [c.x] elt.x i ρ (v :: l) (o.frz :: vs) := .inl ⟨_, _, rfl, c.to.run e' ob' p', (elt.eo.run e ob p).v, h⟩
theorem comp_skip {c elt : T G d fi} {i : Nat} {v : V} {l vs : List V} {tp' : List Tk} {P' : Prop} (e' : out (c.tr ⟨ρ.set i (some (.val v)), tp', []⟩) = some (false, ρ.set i (some (.val v)), [])) (ob' : All (obs (c.tr ⟨ρ.set i (some (.val v)), tp', []⟩)) = P') (p' : P')
    (h : CompI G d fi [c.x] elt.x i ρ l vs) : CompI G d fi [c.x] elt.x i ρ (v :: l) vs := .inr ⟨c.to.run e' ob' p', h⟩
def WhP (c : T G d fi) (b : SL G d fi) (ρ : Loc) (Φ : Fl → Loc → Prop) : Prop := ∃ fl ρ', WhilOK G d fi c.x b.xs ρ fl ρ' ∧ Φ fl ρ'
theorem whp_go {Φ : Fl → Loc → Prop} (f : Bool) (e : out (turn c b f ⟨ρ, tp, []⟩) = some (some .next, ρ', [])) (o : All (obs (turn c b f ⟨ρ, tp, []⟩)) = P) (p : P) (h : WhP c b ρ' Φ) : WhP c b ρ Φ := by
  obtain ⟨fl, ρ2, h1, h2⟩ := h
  exact ⟨fl, ρ2, whil_go f e o p h1, h2⟩
theorem whp_end {Φ : Fl → Loc → Prop} (f : Bool) (e : out (turn c b f ⟨ρ, tp, []⟩) = some (none, ρ', [])) (o : All (obs (turn c b f ⟨ρ, tp, []⟩)) = P) (p : P) (h : Φ .next ρ') : WhP c b ρ Φ := ⟨_, _, whil_end f e o p, h⟩
end
end
end Mine
end

section
open PySem
set_option autoImplicit false
set_option linter.unusedVariables false
namespace Mine
open PySem.W (Frag kitOne keepIn Looks)
noncomputable def dpt (v : V) : Nat := @V.rec (fun _ => Nat) (fun _ => Nat) 0 (fun _ => 0) (fun _ => 0) (fun _ => 0) (fun _ n => n + 1) (fun _ n => n + 1) 0 (fun _ _ a b => max a b) v
noncomputable def dpts (l : List V) : Nat := @V.rec_1 (fun _ => Nat) (fun _ => Nat) 0 (fun _ => 0) (fun _ => 0) (fun _ => 0) (fun _ n => n + 1) (fun _ n => n + 1) 0 (fun _ _ a b => max a b) l
theorem dat_of (v : V) : ∃ x : PyData, ∀ (W : WS) (h : Heap) (v' : Value), VR W h v v' → (∃ as, Reads h v' x as) ∧ x.canLay0 = true ∧ x.depth ≤ dpt v :=
  V.rec (motive_1 := fun v => ∃ x : PyData, ∀ (W : WS) (h : Heap) (v' : Value), VR W h v v' → (∃ as, Reads h v' x as) ∧ x.canLay0 = true ∧ x.depth ≤ dpt v)
    (motive_2 := fun l => ∃ xs : List PyData, ∀ (W : WS) (h : Heap) (l' : List Value), VRs W h l l' → (∃ as, ReadsAll h l' xs as) ∧ PyData.canLayAll0 xs = true ∧ PyData.depthAll xs ≤ dpts l)
    ⟨.none, fun W h v' r => by cases r; exact ⟨⟨_, .none⟩, rfl, Nat.zero_le _⟩⟩
    (fun b => ⟨.bool b, fun W h v' r => by cases r; exact ⟨⟨_, .bool _⟩, rfl, Nat.zero_le _⟩⟩)
    (fun i => ⟨.int i, fun W h v' r => by obtain ⟨t, rfl⟩ := r; exact ⟨⟨_, .int _ _⟩, rfl, Nat.zero_le _⟩⟩)
    (fun z => ⟨.str ⟨z.toArray⟩, fun W h v' r => by obtain ⟨t, rfl, ok, _⟩ := r; exact ⟨⟨_, .str _ _⟩, by simpa [PyData.canLay0] using ok, Nat.zero_le _⟩⟩)
    (fun l ih => by
      obtain ⟨xs, ih⟩ := ih
      refine ⟨.tuple xs, fun W h v' r => ?_⟩
      obtain ⟨a, vs, n, rfl, _, h1, _, h3⟩ := VR.tup r
      obtain ⟨⟨as, A⟩, B, C⟩ := ih W h _ h3
      refine ⟨⟨as, .tuple h1 rfl rfl A⟩, by simpa [PyData.canLay0] using B, ?_⟩
      show PyData.depthAll xs + 1 ≤ dpts l + 1
      exact Nat.succ_le_succ C)
    (fun l ih => by
      obtain ⟨xs, ih⟩ := ih
      refine ⟨.list xs, fun W h v' r => ?_⟩
      obtain ⟨a, vs, n, rfl, _, h1, _, h3⟩ := VR.lst r
      obtain ⟨⟨as, A⟩, B, C⟩ := ih W h _ h3
      refine ⟨⟨_, .list h1 rfl rfl A⟩, by simpa [PyData.canLay0] using B, ?_⟩
      show PyData.depthAll xs + 1 ≤ dpts l + 1
      exact Nat.succ_le_succ C)
    ⟨[], fun W h l' r => by cases r; exact ⟨⟨_, .nil⟩, rfl, Nat.zero_le _⟩⟩
    (fun v l iv il => by
      obtain ⟨x, iv⟩ := iv
      obtain ⟨xs, il⟩ := il
      refine ⟨x :: xs, fun W h l' r => ?_⟩
      obtain ⟨v', r', rfl, rv, rl⟩ := VRs.inv r
      obtain ⟨⟨as, A⟩, B, C⟩ := iv W h _ rv
      obtain ⟨⟨bs, A'⟩, B', C'⟩ := il W h _ rl
      refine ⟨⟨_, .cons A A'⟩, ?_, ?_⟩
      · show (x.canLay0 && PyData.canLayAll0 xs) = true
        rw [B, B']; rfl
      · show max x.depth (PyData.depthAll xs) ≤ max (dpt v) (dpts l)
        omega) v
section
variable {G : Gl} {d : Nat} {fi : FI}
noncomputable def kSame (b : Bool) (x : V) (y : O) : Option (Bool × List Prop) := y.val?.bind fun y => some (b, [x = y ∧ dpt x ≤ 1900])
theorem primSame : PrimC G d .Eq (kSame true) ∧ PrimC G d .NotEq (kSame false) := by
  constructor
  all_goals
    intro x y t ps e q X E W φ s ρ S F x' y' rx ry Q k
    obtain ⟨v, e1, e⟩ := Option.bind_eq_some_iff.mp e
    cases e
    obtain ⟨rfl, hd⟩ := q.1
    rw [O.val_of e1] at ry
    obtain ⟨z, hz⟩ := dat_of x
    obtain ⟨⟨as, A⟩, B, C⟩ := hz W s.heap x' rx
    obtain ⟨⟨bs, A'⟩, _, _⟩ := hz W s.heap y' ry
    have hu : X.A.units + min z.depth z.depth < cLine := by have := S.u; unfold deep at this; omega
  · exact SeqAt.compareEq_reads A A' B B hu (by rw [SeqAt.eqv_refl z B]; exact k s.toks)
  · exact SeqAt.compareNe_reads A A' B B hu (by rw [SeqAt.eqv_refl z B]; exact k s.toks)
noncomputable def eEqS : T G d fi → T G d fi → Pos → T G d fi := eCmp .Eq (kSame true) primSame.1
noncomputable def eNeS : T G d fi → T G d fi → Pos → T G d fi := eCmp .NotEq (kSame false) primSame.2
noncomputable def eGe : T G d fi → T G d fi → Pos → T G d fi := eCmp .GtE (kOrd fun i j => decide (i ≥ j)) (primOrd fun _ _ _ _ _ _ _ _ _ k => P.ge_int k)
noncomputable def eLe : T G d fi → T G d fi → Pos → T G d fi := eCmp .LtE (kOrd fun i j => decide (i ≤ j)) (primOrd fun _ _ _ _ _ _ _ _ _ k => P.le_int k)

noncomputable def kAddT (x y : V) : Option (O × List Prop) := x.tup?.bind fun i => y.tup?.bind fun j => some (.val (.tup (i ++ j)), [(i ++ j).length ≤ room])
theorem primAddT : Prim2 G d (binaryOp .Add) kAddT := by
  intro x y o ps e q X E W φ s ρ S F x' y' rx ry Q k
  obtain ⟨i, e1, e⟩ := Option.bind_eq_some_iff.mp e
  obtain ⟨j, e2, e⟩ := Option.bind_eq_some_iff.mp e
  cases e
  rw [V.tup_of e1] at rx; rw [V.tup_of e2] at ry
  obtain ⟨a, vs, n, rfl, _, h1, z1, r1⟩ := VR.tup rx
  obtain ⟨b, ws, m, rfl, _, h2, z2, r2⟩ := VR.tup ry
  have hz := Nat.le_trans q.1 room_le
  by_cases c1 : vs.isEmpty = true
  · refine concat_meets ⟨_, h1, rfl⟩ ⟨_, h2, rfl⟩ noFill_tuple_add seq_tuple_add PySem.F.slot_tuple_add PySem.F.entry_tuple_add (PySem.F.args_tuple_add_2 _ _) (PyProof.Rows.tuple_addW0 a b vs ws n m none none #[] #[] c1) ⟨h1, h2, ?_⟩
    have : i = [] := by
      have h0 := r1.size; rw [Array.isEmpty_iff] at c1; rw [c1] at h0
      exact List.length_eq_zero_iff.mp h0.symm
    subst this
    exact k.here (t := s.toks) F.f.wf ry
  · by_cases c2 : ws.isEmpty = true
    · refine concat_meets ⟨_, h1, rfl⟩ ⟨_, h2, rfl⟩ noFill_tuple_add seq_tuple_add PySem.F.slot_tuple_add PySem.F.entry_tuple_add (PySem.F.args_tuple_add_2 _ _) (PyProof.Rows.tuple_addW1 a b vs ws n m none none #[] #[] c1 c2) ⟨h1, h2, ?_⟩
      have : j = [] := by
        have h0 := r2.size; rw [Array.isEmpty_iff] at c2; rw [c2] at h0
        exact List.length_eq_zero_iff.mp h0.symm
      subst this
      rw [List.append_nil] at k
      exact k.here (t := s.toks) F.f.wf rx
    · refine concat_meets ⟨_, h1, rfl⟩ ⟨_, h2, rfl⟩ noFill_tuple_add seq_tuple_add PySem.F.slot_tuple_add PySem.F.entry_tuple_add (PySem.F.args_tuple_add_2 _ _) (PyProof.Rows.tuple_addW2 a b vs ws n m none none #[] #[] c1 c2 (by rw [r1.size, r2.size, ← List.length_append]; exact hz)) ⟨h1, h2, ?_⟩
      exact k.tuple (t := s.toks) F.f.wf (by rw [Array.toList_append]; exact r1.append r2) hz
noncomputable def eAddT : T G d fi → T G d fi → Pos → T G d fi := eBin .Add kAddT primAddT

noncomputable def kIsN (x : V) (y : O) : Option (Bool × List Prop) := y.val?.bind fun y => V.casesOn y (some (V.casesOn x true (fun _ => false) (fun _ => false) (fun _ => false) (fun _ => false) (fun _ => false), [])) (fun _ => none) (fun _ => none) (fun _ => none) (fun _ => none) (fun _ => none)
theorem primIsN : PrimC G d .Is kIsN := by
  intro x y t ps e q X E W φ s ρ S F x' y' rx ry Q k
  obtain ⟨v, e1, e⟩ := Option.bind_eq_some_iff.mp e
  rw [O.val_of e1] at ry
  cases v <;> cases e
  cases ry
  have k := k s.toks
  cases x with
  | none => cases rx; exact wpAny_is_self rfl k
  | bool b => cases rx; exact PyProof.Rows.is_bool_none k
  | int i => obtain ⟨_, rfl⟩ := rx; exact PyProof.Rows.is_int_none k
  | str z => obtain ⟨_, rfl, _⟩ := rx; exact PyProof.Rows.is_str_none k
  | tup l => obtain ⟨p, _, _, rfl, _⟩ := VR.tup rx; exact PyProof.Rows.is_ref_none k
  | lst l => obtain ⟨p, _, _, rfl, _⟩ := VR.lst rx; exact PyProof.Rows.is_ref_none k
noncomputable def eIs : T G d fi → T G d fi → Pos → T G d fi := eCmp .Is kIsN primIsN
end
end Mine
end

section
open PySem
set_option autoImplicit false
set_option linter.unusedVariables false
namespace Mine
open PySem.W (Frag kitOne keepIn Looks)
open PyProof.Rows (StrsAre)
theorem texts_are {W : WS} {h : Heap} : ∀ {l : List V} {l' : List Value} {ss : List (List Nat)}, VRs W h l l' → textsOf l = some ss → StrsAre l' (ss.map fun z => (⟨z.toArray⟩ : Str))
  | [], _, _, r, e => by cases r; cases e; exact .nil
  | v :: l, _, _, r, e => by
    obtain ⟨v', r', rfl, rv, rl⟩ := VRs.inv r
    obtain ⟨z, e1, e⟩ := Option.bind_eq_some_iff.mp e
    obtain ⟨t, e2, e⟩ := Option.bind_eq_some_iff.mp e
    cases e
    rw [V.str_of e1] at rv
    obtain ⟨tk, rfl, ok, _⟩ := rv
    exact .cons _ tk (texts_are rl e2)
theorem strs_rev : ∀ {l : List Value} {ys : List Str}, StrsAre l ys → StrsAre l.reverse ys.reverse := by
  have app : ∀ {l : List Value} {ys : List Str} {m : List Value} {zs : List Str}, StrsAre l ys → StrsAre m zs → StrsAre (l ++ m) (ys ++ zs) := by
    intro l ys m zs h k
    induction h with
    | nil => exact k
    | cons y t _ ih => exact .cons y t ih
  intro l ys h
  induction h with
  | nil => exact .nil
  | cons y t _ ih => rw [List.reverse_cons, List.reverse_cons]; exact app ih (.cons y t .nil)
theorem any_str (z : List Nat) : ∀ ss : List (List Nat), (ss.map fun z => (⟨z.toArray⟩ : Str)).any (· == ⟨z.toArray⟩) = ss.any (· == z)
  | [] => rfl
  | t :: ss => by
    rw [List.map_cons, List.any_cons, List.any_cons, any_str z ss]
    congr 1
    by_cases q : t = z
    · subst q; simp
    · have q' : (t == z) = false := by simpa using q
      rw [q', beq_eq_false_iff_ne]
      intro e; exact q (by simpa using e)
section
variable {G : Gl} {d : Nat} {fi : FI}
noncomputable def textsIn (y : O) : Option (List (List Nat)) := O.casesOn y (fun v => V.casesOn v none (fun _ => none) (fun _ => none) (fun _ => none) textsOf textsOf) textsOf
noncomputable def kInT (n : Bool) (x : V) (y : O) : Option (Bool × List Prop) := x.str?.bind fun z => (textsIn y).bind fun ss => some (Bool.casesOn n (ss.any (· == z)) (!ss.any (· == z)), [])
theorem primInT : PrimC G d .In (kInT false) ∧ PrimC G d .NotIn (kInT true) := by
  constructor
  all_goals
    intro x y t ps e q X E W φ s ρ S F x' y' rx ry Q k
    obtain ⟨z, e1, e⟩ := Option.bind_eq_some_iff.mp e
    obtain ⟨ss, e2, e⟩ := Option.bind_eq_some_iff.mp e
    cases e
    rw [V.str_of e1] at rx
    obtain ⟨tk, rfl, ok, _⟩ := rx
    have k := k s.toks
    have ea := any_str z ss
    cases y with
    | own r =>
      obtain ⟨a, rfl, vs, n, h1, h2, h3⟩ := ry
      have hs := strs_rev (texts_are (l := r.reverse.reverse) (l' := vs.toList.reverse) (ss := ss) (by
        rw [List.reverse_reverse]
        have : ∀ {l : List V} {l' : List Value}, VRs W s.heap l l' → VRs W s.heap l.reverse l'.reverse := by
          intro l
          induction l with
          | nil => intro l' r; cases r; exact rfl
          | cons v l ih => intro l' r; obtain ⟨v', r', rfl, rv, rl⟩ := VRs.inv r; rw [List.reverse_cons, List.reverse_cons]; exact (ih rl).snoc rv
        have := this h2
        rwa [List.reverse_reverse] at this) (by rw [List.reverse_reverse]; exact e2))
      rw [List.reverse_reverse] at hs
      have er : (ss.map fun z => (⟨z.toArray⟩ : Str)).reverse.any (· == ⟨z.toArray⟩) = ss.any (· == z) := by rw [List.any_reverse]; exact ea
      first
      | exact PyProof.Rows.in_list_strs (vs := vs.toList) ⟨_, h1, rfl, _, rfl⟩ hs (by rw [er]; exact k)
      | exact PyProof.Rows.notin_list_strs (vs := vs.toList) ⟨_, h1, rfl, _, rfl⟩ hs (by rw [er]; exact k)
    | val v =>
      cases v with
      | none => cases e2
      | bool => cases e2
      | int => cases e2
      | str => cases e2
      | tup l =>
        obtain ⟨a, vs, n, rfl, _, h1, h2, h3⟩ := VR.tup ry
        have hs := texts_are h3 e2
        first
        | exact PyProof.Rows.in_tuple_strs ⟨_, h1, rfl, _, rfl⟩ hs (by rw [ea]; exact k)
        | exact PyProof.Rows.notin_tuple_strs ⟨_, h1, rfl, _, rfl⟩ hs (by rw [ea]; exact k)
      | lst l =>
        obtain ⟨a, vs, n, rfl, _, h1, h2, h3⟩ := VR.lst ry
        have hs := texts_are h3 e2
        first
        | exact PyProof.Rows.in_list_strs (vs := vs.toList) ⟨_, h1, rfl, _, rfl⟩ hs (by rw [ea]; exact k)
        | exact PyProof.Rows.notin_list_strs (vs := vs.toList) ⟨_, h1, rfl, _, rfl⟩ hs (by rw [ea]; exact k)
noncomputable def eInT : T G d fi → T G d fi → Pos → T G d fi := eCmp .In (kInT false) primInT.1
noncomputable def eNotIn : T G d fi → T G d fi → Pos → T G d fi := eCmp .NotIn (kInT true) primInT.2
noncomputable def evP (a b : T G d fi) (p : V → O → Bool → Prop) (σ : St) : Option (Bool × St) := bd (a.ev σ) fun x σ => bd (b.pk σ) fun y σ => told Tk.b? (fun _ t => p x.frz y t) id (fun _ ρ => ρ) σ
def PrimP (G : Gl) (d : Nat) (op : CmpOp) (p : V → O → Bool → Prop) : Prop :=
  ∀ x y t, p x y t → ∀ (X : FC) (E : Value → Shared → Prop) (W : WS) (φ : Nat → List Addr) (s : Shared) (ρ : Loc), FS G d X → At X W φ s ρ → ∀ x' y', VR W s.heap x x' → BR W s.heap y y' →
    ∀ Q : Value → Shared → Prop, (∀ tk, Q (.bool t) { s with toks := tk }) → wpAny X.C.M X.A (compareOp op x' y') Q E s
theorem evP_ok {op : CmpOp} {p : V → O → Bool → Prop} (h : PrimP G d op p) (a b : T G d fi) : Ok (evP a b p) (CmG G d fi op a.x b.x) :=
  a.eo.bd (R := fun u ρ t ρ' => ∃ v, PkG G d fi b.x ρ v ρ' ∧ p u.frz v t) (fun u => b.po.bd (R := fun v ρ t ρ' => p u.frz v t ∧ ρ = ρ') (fun v => Ok.told (f := Tk.b?) (p := fun _ t => p u.frz v t) (r := id) (ρ := fun _ ρ => ρ) fun t ρ q => ⟨q, rfl⟩)
    fun _ v _ _ _ h q => by obtain ⟨q1, rfl⟩ := q; exact ⟨v, h, q1⟩) fun _ u _ t _ h1 q => by
      obtain ⟨v, h2, q1⟩ := q
      exact fun X E W φ s e S F Q kk => h1.v X E W φ s e S F _ fun u' W₁ φ₁ s₁ p₁ r₁ => h2 X E W₁ φ₁ s₁ e S p₁.f _ fun v' W₂ φ₂ s₂ p₂ r₂ =>
        h _ _ _ q1 X E W₂ φ₂ s₂ _ S p₂.f _ _ (r₁.ag p₂.ag) r₂ _ fun tk => kk _ _ _ ⟨p₂.f.toks tk, p₁.ag.trans p₂.ag, (p₁.trans p₂).vl⟩
noncomputable def eCmpP (op : CmpOp) (p : V → O → Bool → Prop) (h : PrimP G d op p) (a b : T G d fi) (q : Pos) : T G d fi := .cmp op a.x b.x q b.pl (evP a b p) (evP_ok h a b)
def InP (n : Bool) (x : V) (y : O) (t : Bool) : Prop := kInT n x y = some (t, [])
theorem primP {op : CmpOp} {k : V → O → Option (Bool × List Prop)} (h : PrimC G d op k) : PrimP G d op (fun x y t => k x y = some (t, [])) := fun x y t e X E W φ s ρ S F x' y' rx ry Q kk => h x y t [] e trivial X E W φ s ρ S F x' y' rx ry Q kk
noncomputable def eInP : T G d fi → T G d fi → Pos → T G d fi := eCmpP .In (InP false) (primP primInT.1)
noncomputable def eNotInP : T G d fi → T G d fi → Pos → T G d fi := eCmpP .NotIn (InP true) (primP primInT.2)
noncomputable def sExt (x : Str) (i : Nat) (a : T G d fi) (xp ap cp p : Pos) (h : (fi.isVar x i && (ap.endLine == cp.line)) = true) : SS G d fi :=
  ⟨.Expr (.Call (.Attribute (.Name x xp) "extend" ap) [a.x] [] cp) p, fun σ => (ownAt σ.ρ i).bind fun _ => bd (a.ev σ) fun y σ => y.frz.lst?.bind fun l => (ownAt σ.ρ i).bind fun r => some (.next, ⟨σ.ρ.set i (some (.own (l.reverse ++ r))), σ.tp, (l.length + r.length < room) :: σ.ob⟩), by
    intro σ f σ' e q
    obtain ⟨o0, e0, e⟩ := Option.bind_eq_some_iff.mp e
    obtain ⟨⟨y, σ₁⟩, e1, e⟩ := Option.bind_eq_some_iff.mp e
    obtain ⟨l, e3, e⟩ := Option.bind_eq_some_iff.mp e
    obtain ⟨r, e2, e⟩ := Option.bind_eq_some_iff.mp e
    rw [Bool.and_eq_true] at h
    cases e
    obtain ⟨q2, hk⟩ := a.eo σ y σ₁ e1 q.2
    refine ⟨q2, fun X E W φ s ef c S F Q k => wpAny_Expr_any (method_call rfl (fun z q => by cases List.mem_singleton.mp q; exact a.pl) h.2 rfl fun pl => load_ok S F (ef ▸ h.1) (ownAt_some e0) fun x' hx hn hv rr => ?_) (by unfold interactive; rw [S.fn]; rfl) rfl⟩
    obtain ⟨a0, _, rfl, vs0, n0, z0, _⟩ := rr
    refine getMethod_builtin (T := "list") ⟨_, z0, rfl⟩ PySem.F.plainAttrs_list PySem.F.slot_list_extend PySem.F.type_list_extend (fun a q => by cases q; exact ⟨_, z0, rfl⟩) ?_
    refine callW (K := X.C.K) (fun h _ => keeper_builtin _ h _) (PySem.Calls.spliced_cons (hk.v X E W φ s ef S F _ fun y' W' φ' s' p' r' => PySem.Calls.spliced_nil ⟨p'.f.In S, ?_⟩))
    obtain ⟨ad, hp, ea, vs, n, h1, h2, h3⟩ := still p'.f hx hn (p'.vl _ _ hv) (ownAt_some e2)
    cases ea
    have hs := h2.size
    rw [List.length_reverse] at hs
    rw [V.lst_of e3] at r'
    obtain ⟨b, ws, m, rfl, _, g1, g2, g3⟩ := VR.lst r'
    have hs2 := g3.size
    have q1 : l.length + r.length < room := q.1
    have := room_le
    have hz : vs.size + ws.size ≤ sizeLine := by omega
    refine call_meets PySem.F.slot_list_extend ⟨_, h1, rfl⟩ PySem.F.entry_list_extend (PySem.F.args_list_extend_2 _ _) (AutoSeq1.list_extend_list_list_0 a0 vs n b ws m (PyProof.Rows.extend_door hz) (by omega)) ⟨h1, g1, ?_⟩
    obtain ⟨A, B⟩ := p'.f.turn (x := x) (i := i) (t := s'.toks) (r := l.reverse ++ r) (h' := s'.heap.update a0 (Obj.mapSeq (· ++ ws))) (fun z hz => S.ti z x i hz hx) hp (Heap.SameBut.update ..) (p'.vl _ _ hv) (Heap.get?_update_self _ h1 rfl)
      (by rw [Array.toList_append, List.reverse_append, List.reverse_reverse]; exact h2.append g3) (by rw [List.length_append, List.length_reverse]; omega)
    exact k _ _ _ _ A (p'.ag.trans B) rfl⟩
end
end Mine
end

section
open PySem PyProof.Rows
open PySem.W (KasT kas_asc kas_desc kas_rev kas_tail3 kas_descPart kas_count kas_place kas_bin kas_sort)
set_option autoImplicit false
set_option linter.unusedVariables false
namespace Mine
structure LOrd (lt : Nat → Nat → Bool) (n : Nat) : Prop where
  tr : ∀ i j k, lt i j = true → lt j k = true → lt i k = true
  tot : ∀ i j, i < n → j < n → i ≠ j → lt i j = true ∨ lt j i = true
  asy : ∀ i j, lt i j = true → lt j i = false
abbrev ga (p : Array Nat) (i : Nat) : Nat := p.getD i 0
abbrev PM (n : Nat) (p : Array Nat) : Prop := p.toList.Perm (List.range n)
def Up (lt : Nat → Nat → Bool) (p : Array Nat) (m : Nat) : Prop := ∀ i j, i < j → j < m → lt (ga p i) (ga p j) = true
def Dn (lt : Nat → Nat → Bool) (p : Array Nat) (m : Nat) : Prop := ∀ i j, i < j → j < m → lt (ga p j) (ga p i) = true
section
variable {n : Nat} {p : Array Nat}
theorem PM.size (h : PM n p) : p.size = n := by have := h.length_eq; rwa [List.length_range, Array.length_toList] at this
theorem ga_at {i : Nat} (hi : i < p.size) : p[i]? = some (ga p i) := by simp [ga, Array.getD, hi]
theorem PM.lt (h : PM n p) {i : Nat} (hi : i < n) : ga p i < n := by
  have e := ga_at (p := p) (by rw [h.size]; exact hi)
  have m : ga p i ∈ p.toList := by rw [← Array.getElem?_toList] at e; exact List.mem_of_getElem? e
  exact List.mem_range.mp (h.mem_iff.mp m)
theorem PM.ne (h : PM n p) {i j : Nat} (hi : i < n) (hj : j < n) (hne : i ≠ j) : ga p i ≠ ga p j := by
  intro e
  have nd : p.toList.Nodup := h.nodup_iff.mpr List.nodup_range
  have ei := ga_at (p := p) (by rw [h.size]; exact hi)
  have ej := ga_at (p := p) (by rw [h.size]; exact hj)
  rw [← Array.getElem?_toList] at ei ej
  obtain ⟨li, ei⟩ := List.getElem?_eq_some_iff.mp ei
  obtain ⟨lj, ej⟩ := List.getElem?_eq_some_iff.mp ej
  exact hne ((List.getElem_inj nd).mp (ei.trans (e.trans ej.symm)))
theorem ga_rev {m : Nat} (hm : m ≤ p.size) (i : Nat) : ga (kas_rev p 0 m) i = if i < m then ga p (m - 1 - i) else ga p i := by
  have e := getElem?_mirror_all (xs := p) (i := 0) hm i
  have : (kas_rev p 0 m)[i]? = if i < m then p[m - 1 - i]? else p[i]? := by
    unfold kas_rev; rw [e]
    by_cases h : i < m
    · rw [if_pos ⟨Nat.zero_le _, h⟩, if_pos h]; congr 1; omega
    · rw [if_neg (fun q => h q.2), if_neg h]
  have hd : ∀ (q : Array Nat) (k : Nat), ga q k = q[k]?.getD 0 := fun q k => by simp [ga, Array.getD_eq_getD_getElem?]
  rw [hd, this]; split <;> rw [hd]
theorem ga_bub {k l : Nat} (hk : k < p.size) (hl : l ≤ k) (i : Nat) : ga (bubble p k (k - l)) i = if i = l then ga p k else if l < i ∧ i ≤ k then ga p (i - 1) else ga p i := by
  have hd : ∀ (q : Array Nat) (k : Nat), ga q k = q[k]?.getD 0 := fun q k => by simp [ga, Array.getD_eq_getD_getElem?]
  have e := getElem?_bubble hk (k - l) (by omega) i
  have e1 : k - (k - l) = l := by omega
  rw [e1] at e
  rw [hd, e]
  by_cases h1 : i = l
  · rw [if_pos h1, if_pos h1, hd]
  · rw [if_neg h1, if_neg h1]
    by_cases h2 : l < i ∧ i ≤ k
    · rw [if_pos h2, if_pos h2, hd]
    · rw [if_neg h2, if_neg h2, hd]
end
section
variable {lt : Nat → Nat → Bool} {n : Nat} {cmp : Nat → Nat → (Bool → Shared → Prop) → Shared → Prop} {s : Shared}
variable (O : LOrd lt n) (H : ∀ (i j : Nat) (C : Bool → Shared → Prop), i < n → j < n → C (lt i j) s → cmp i j C s)
include O H
theorem s_asc {p : Array Nat} (P : PM n p) {Q : Nat → Shared → Prop} : ∀ (f m : Nat), 1 ≤ m → m + f = n → Up lt p m → (∀ m', 1 ≤ m' → m' ≤ n → Up lt p m' → (m' = n ∨ (m' < n ∧ lt (ga p m') (ga p (m' - 1)) = true)) → Q m' s) → (kas_asc p f m).kasWp cmp Q s
  | 0, m, h1, h2, u, k => k m h1 (by omega) u (.inl (by omega))
  | f + 1, m, h1, h2, u, k => by
    refine H _ _ _ (P.lt (by omega)) (P.lt (by omega)) ?_
    cases e : lt (ga p m) (ga p (m - 1)) with
    | true => exact k m h1 (by omega) u (.inr ⟨by omega, e⟩)
    | false =>
      have t : lt (ga p (m - 1)) (ga p m) = true := by
        rcases O.tot _ _ (P.lt (i := m - 1) (by omega)) (P.lt (i := m) (by omega)) (P.ne (by omega) (by omega) (by omega)) with q | q
        · exact q
        · rw [e] at q; cases q
      exact s_asc P f (m + 1) (by omega) (by omega) (fun i j hi hj => by
        by_cases q : j < m
        · exact u i j hi q
        · have : j = m := by omega
          subst this
          by_cases q2 : i = j - 1
          · rw [q2]; exact t
          · exact O.tr _ _ _ (u i (j - 1) (by omega) (by omega)) t) k
theorem s_desc {p : Array Nat} (P : PM n p) {Q : Array Nat × Nat × Nat → Shared → Prop} : ∀ (f m : Nat), 1 ≤ m → m + f = n → Dn lt p m → (∀ m', 1 ≤ m' → m' ≤ n → Dn lt p m' → Q (p, m', 0) s) → (kas_desc f p m 0).kasWp cmp Q s
  | 0, m, h1, h2, u, k => k m h1 (by omega) u
  | f + 1, m, h1, h2, u, k => by
    refine H _ _ _ (P.lt (by omega)) (P.lt (by omega)) ?_
    cases e : lt (ga p m) (ga p (m - 1)) with
    | true =>
      exact s_desc P f (m + 1) (by omega) (by omega) (fun i j hi hj => by
        by_cases q : j < m
        · exact u i j hi q
        · have : j = m := by omega
          subst this
          by_cases q2 : i = j - 1
          · rw [q2]; exact e
          · exact O.tr _ _ _ e (u i (j - 1) (by omega) (by omega))) k
    | false =>
      have t : lt (ga p (m - 1)) (ga p m) = true := by
        rcases O.tot _ _ (P.lt (i := m - 1) (by omega)) (P.lt (i := m) (by omega)) (P.ne (by omega) (by omega) (by omega)) with q | q
        · exact q
        · rw [e] at q; cases q
      refine H _ _ _ (P.lt (i := m - 1) (by omega)) (P.lt (i := m) (by omega)) ?_
      rw [t]
      exact k m h1 (by omega) u
theorem s_tail {p : Array Nat} (P : PM n p) {Q : Nat × Array Nat → Shared → Prop} {m : Nat} (h1 : 1 ≤ m) (h2 : m ≤ n) (u : Dn lt p m) (k : ∀ m' q, PM n q → 1 ≤ m' → m' ≤ n → Up lt q m' → Q (m', q) s) : (kas_tail3 m n p).kasWp cmp Q s := by
  have Pq : PM n (kas_rev p 0 m) := (mirror_perm p 0 m _).toList.trans P
  unfold kas_tail3
  rw [KasT.kasWp_bind]
  refine s_asc O H Pq (n - m) m h1 (by omega) (fun i j hi hj => ?_) fun m' a b c _ => k m' _ Pq a b c
  rw [ga_rev (by rw [P.size]; exact h2), ga_rev (by rw [P.size]; exact h2), if_pos (by omega), if_pos hj]
  exact u _ _ (by omega) (by omega)
theorem s_count {p : Array Nat} (P : PM n p) (h2 : 2 ≤ n) {Q : Nat × Array Nat → Shared → Prop} (k : ∀ m' q, PM n q → 1 ≤ m' → m' ≤ n → Up lt q m' → Q (m', q) s) : (kas_count n p).kasWp cmp Q s := by
  unfold kas_count
  rw [KasT.kasWp_bind]
  refine s_asc O H P (n - 1) 1 (Nat.le_refl _) (by omega) (fun i j hi hj => by omega) fun m a b u st => ?_
  by_cases e : m = n
  · rw [if_pos (by rw [e]; exact beq_self_eq_true _)]; exact k m p P a b u
  · rw [if_neg (by simpa using e)]
    obtain ⟨hm, hlt⟩ := st.resolve_left e
    by_cases e1 : m > 1
    · rw [if_pos e1]
      refine H _ _ _ (P.lt (i := 0) (by omega)) (P.lt (i := m - 1) (by omega)) ?_
      rw [u 0 (m - 1) (by omega) (by omega)]
      exact k m p P a b u
    · rw [if_neg e1]
      have : m = 1 := by omega
      subst this
      unfold kas_descPart
      rw [KasT.kasWp_bind]
      refine s_desc O H P (n - (1 + 1)) (1 + 1) (by omega) (by omega) (fun i j hi hj => ?_) fun m' a' b' u' => ?_
      · have : i = 0 := by omega
        have : j = 1 := by omega
        subst i; subst j; exact hlt
      · rw [if_neg (by simp)]
        exact s_tail O H P a' b' u' k
theorem s_place {p : Array Nat} (P : PM n p) {k : Nat} (hk : k < n) (u : Up lt p k) {Q : Nat → Shared → Prop} (kk : ∀ l, l ≤ k → (∀ i, i < l → lt (ga p i) (ga p k) = true) → (∀ i, l ≤ i → i < k → lt (ga p k) (ga p i) = true) → Q l s) :
    ∀ (f l r : Nat), l ≤ r → r ≤ k → r - l ≤ f → (∀ i, i < l → lt (ga p i) (ga p k) = true) → (∀ i, r ≤ i → i < k → lt (ga p k) (ga p i) = true) → (kas_place p k f l r).kasWp cmp Q s
  | 0, l, r, h1, h2, h3, a, b => kk l (by omega) a (fun i hi => b i (by omega))
  | f + 1, l, r, h1, h2, h3, a, b => by
    unfold kas_place
    by_cases e : l ≥ r
    · rw [if_pos e]; exact kk l (by omega) a (fun i hi => b i (by omega))
    · rw [if_neg e]
      refine H _ _ _ (P.lt hk) (P.lt (by omega)) ?_
      cases q : lt (ga p k) (ga p ((l + r) / 2)) with
      | true =>
        exact s_place P hk u kk f l ((l + r) / 2) (by omega) (by omega) (by omega) a fun i hi hik => by
          by_cases z : i = (l + r) / 2
          · rw [z]; exact q
          · exact O.tr _ _ _ q (u _ _ (by omega) hik)
      | false =>
        have t : lt (ga p ((l + r) / 2)) (ga p k) = true := by
          rcases O.tot _ _ (P.lt (i := (l + r) / 2) (by omega)) (P.lt (i := k) hk) (P.ne (by omega) hk (by omega)) with z | z
          · exact z
          · rw [q] at z; cases z
        exact s_place P hk u kk f ((l + r) / 2 + 1) r (by omega) h2 (by omega) (fun i hi => by
          by_cases z : i = (l + r) / 2
          · rw [z]; exact t
          · exact O.tr _ _ _ (u _ _ (by omega) (by omega)) t) b
theorem s_bin {Q : Array Nat → Shared → Prop} (kk : ∀ p, PM n p → Up lt p n → Q p s) : ∀ (f k : Nat) (p : Array Nat), k + f = n → PM n p → Up lt p k → (kas_bin f p k).kasWp cmp Q s
  | 0, k, p, h1, P, u => kk p P (by have : k = n := by omega
                                    rw [← this]; exact u)
  | f + 1, k, p, h1, P, u => by
    unfold kas_bin
    rw [KasT.kasWp_bind]
    refine s_place O H P (by omega) u (fun l hl a b => ?_) k 0 k (Nat.zero_le _) (Nat.le_refl _) (by omega) (fun i hi => by omega) (fun i hi hk => by omega)
    have Pq : PM n (bubble p k (k - l)) := (bubble_perm p k _).toList.trans P
    refine s_bin kk f (k + 1) _ (by omega) Pq fun i j hi hj => ?_
    have hks : k < p.size := by rw [P.size]; omega
    rw [ga_bub hks hl, ga_bub hks hl]
    by_cases i1 : i = l
    · rw [if_pos i1, if_neg (by omega : ¬ j = l), if_pos (by omega)]
      exact b _ (by omega) (by omega)
    · rw [if_neg i1]
      by_cases j1 : j = l
      · rw [if_pos j1, if_neg (by omega)]; exact a _ (by omega)
      · rw [if_neg j1]
        by_cases i2 : l < i ∧ i ≤ k
        · rw [if_pos i2, if_pos (by omega)]; exact u _ _ (by omega) (by omega)
        · rw [if_neg i2]
          by_cases j2 : l < j ∧ j ≤ k
          · rw [if_pos j2]
            by_cases i3 : i = j - 1
            · exfalso; omega
            · exact u _ _ (by omega) (by omega)
          · rw [if_neg j2]; exact u _ _ hi (by omega)
theorem s_sort (h2 : 2 ≤ n) {Q : Array Nat → Shared → Prop} (kk : ∀ p, PM n p → Up lt p n → Q p s) : (kas_sort n).kasWp cmp Q s := by
  unfold kas_sort
  rw [KasT.kasWp_bind]
  refine s_count O H (p := List.toArray (List.range n)) (.refl _) h2 fun m q P a b u => ?_
  by_cases e : m < n
  · rw [if_pos e]
    exact s_bin O H kk (n - max m 1) (max m 1) q (by omega) P (by rw [Nat.max_eq_left a]; exact u)
  · rw [if_neg e]
    have : m = n := by omega
    exact kk q P (this ▸ u)
end
end Mine
end

section
open PySem PyProof.Rows PySem.W PySem.Calls
set_option autoImplicit false
set_option linter.unusedVariables false
namespace Mine
section
variable {prog : Program} {w : World} {A : Around} {E : Value → Shared → Prop} {s : Shared}
theorem sorted_tups {l : Addr} {vs : List Value} {lt : Nat → Nat → Bool} {Q : Value → Shared → Prop} (hl : s.heap.IsList l vs.toArray) (h2 : 2 ≤ vs.length) (h64 : vs.length < 64) (O : LOrd lt vs.length)
    (kind : ∀ (A' : Around) (h' : Heap) (Q : SortKind → Shared → Prop), (∀ b o, s.heap.get? b = some o → h'.get? b = some o) → Q (tuples' true) { s with heap := h' } → wpAny (model prog w) A' (keyKind' vs.toArray) Q (fun _ _ => False) { s with heap := h' })
    (ask : ∀ (A' : Around) (h' : Heap), (∀ b o, s.heap.get? b = some o → h'.get? b = some o) → ∀ (i j : Nat) (C : Bool → Shared → Prop), i < vs.length → j < vs.length → C (lt i j) { s with heap := h' } → kas_ask prog w A' (tuples' true) vs i j C { s with heap := h' })
    (fin : ∀ p : Array Nat, PM vs.length p → Up lt p vs.length → ∀ (h' : Heap) (a : Addr) (e : Nat), (∀ b o, s.heap.get? b = some o → h'.get? b = some o) → s.heap.get? a = none → h'.get? a = some (seqObj "list" (List.toArray (p.toList.map fun i => vs.getD i Value.none)) e) → Q (.ref a) { s with heap := h' }) :
    wpAny (model prog w) A (call (.builtin "sorted") [.ref l]) Q E s := by
  refine Calls.call_function_entry kind_sorted plain_sorted entry_sorted (args_sorted1 _) ?_
  unfold Builtin.«sorted»
  refine wpAny_bind (m := checkCount "sorted" 1 1 _) (wpAny_pure ?_)
  refine wpAny_bind (collect_list hl ?_ (by rw [sizeLine_eq]; omega))
  refine wpAny_bind (wpAny_newList ?_ (by rw [sizeLine_eq]; omega))
  have hsz : ((s.heap.push (seqObj "list" #[] 0)).update s.heap.objs.size (Obj.mapSeq (· ++ vs.toArray))).objs.size = s.heap.objs.size + 1 := by
    rw [Heap.size_update, size_push']
  have hoL : (((s.heap.push (seqObj "list" #[] 0)).update s.heap.objs.size (Obj.mapSeq (· ++ vs.toArray))).push (seqObj "list" vs.toArray 0)).get? (s.heap.objs.size + 1) = some (seqObj "list" vs.toArray 0) := by
    rw [← hsz]; exact Heap.get?_push_size _ rfl
  have keep : ∀ b o, s.heap.get? b = some o → (((s.heap.push (seqObj "list" #[] 0)).update s.heap.objs.size (Obj.mapSeq (· ++ vs.toArray))).push (seqObj "list" vs.toArray 0)).get? b = some o := fun b o q => by
    have hlt : b < s.heap.objs.size := Heap.lt_size q
    rw [Heap.get?_push_ne _ _ _ (by rw [hsz]; exact Nat.ne_of_lt (Nat.lt_succ_of_lt hlt)), Heap.get?_update_ne _ _ _ _ (Nat.ne_of_lt hlt), Heap.get?_push_ne _ _ _ (Nat.ne_of_lt hlt)]
    exact q
  show wpAny _ _ _ _ _ { s with heap := ((s.heap.push (seqObj "list" #[] 0)).update s.heap.objs.size (Obj.mapSeq (· ++ vs.toArray))).push (seqObj "list" vs.toArray 0) }
  rw [hsz]
  generalize ((s.heap.push (seqObj "list" #[] 0)).update s.heap.objs.size (Obj.mapSeq (· ++ vs.toArray))).push (seqObj "list" vs.toArray 0) = H at hoL keep ⊢
  have hno : ∀ b o, s.heap.get? b = some o → b ≠ s.heap.objs.size + 1 := fun b o q z => absurd (Heap.lt_size q) (by rw [z]; exact Nat.not_lt.mpr (Nat.le_succ _))
  refine wpAny_bind (wpAny_holding (wpAny_call_entry slot_list_sort ⟨_, hoL, rfl⟩ entry_list_sort ?body (args_list_sort _)))
  case body =>
    have s1 := Heap.SameBut.update H (s.heap.objs.size + 1) (Obj.mapSeq fun _ => (#[] : Array Value))
    obtain ⟨e1, ho1⟩ : ∃ e1, (H.update (s.heap.objs.size + 1) (Obj.mapSeq fun _ => (#[] : Array Value))).get? (s.heap.objs.size + 1) = some (seqObj "list" #[] e1) := ⟨_, get?_update_seq hoL fun _ => #[]⟩
    rw [list_sort_plain]
    refine wpAny_bind (listItems_at hoL rfl ?_)
    refine wpAny_bind (listUpdate_at hoL rfl ?_ (by rw [List.size_toArray, sizeLine_eq]; omega) (Nat.zero_le _))
    refine wpAny_bind (seqEpoch_at ho1 rfl ?_)
    refine wpAny_bind (wpAny_newTuple ?_ (by show vs.length ≤ _; rw [sizeLine_eq]; omega))
    refine wpAny_bind (wpAny_newList ?_ (Nat.zero_le _))
    refine wpAny_holding ?_
    show wpAny (model prog w) _ _ _ _ { s with heap := ((H.update (s.heap.objs.size + 1) (Obj.mapSeq fun _ => (#[] : Array Value))).push (seqObj "tuple" vs.toArray 0)).push (seqObj "list" #[] 0) }
    have ho3 : (((H.update (s.heap.objs.size + 1) (Obj.mapSeq fun _ => (#[] : Array Value))).push (seqObj "tuple" vs.toArray 0)).push (seqObj "list" #[] 0)).get? (s.heap.objs.size + 1) = some (seqObj "list" #[] e1) := Heap.get?_push_of_some _ (Heap.get?_push_of_some _ ho1)
    have keep3 : ∀ b o, s.heap.get? b = some o → (((H.update (s.heap.objs.size + 1) (Obj.mapSeq fun _ => (#[] : Array Value))).push (seqObj "tuple" vs.toArray 0)).push (seqObj "list" #[] 0)).get? b = some o := fun b o q =>
      Heap.get?_push_of_some _ (Heap.get?_push_of_some _ ((s1.2 b (hno b o q)).trans (keep b o q)))
    generalize ((H.update (s.heap.objs.size + 1) (Obj.mapSeq fun _ => (#[] : Array Value))).push (seqObj "tuple" vs.toArray 0)).push (seqObj "list" #[] 0) = H3 at ho3 keep3 ⊢
    dsimp only
    have hn2 : ¬ vs.toArray.size < 2 := by rw [List.size_toArray]; omega
    rw [if_neg hn2, if_neg hn2]
    refine wpAny_bind (wpAny_mono (kind _ H3 (fun κ s' => κ = tuples' true ∧ s' = { s with heap := H3 }) keep3 ⟨rfl, rfl⟩) (fun κ s0 hk => ?_) fun _ _ x => x.elim)
    obtain ⟨rfl, rfl⟩ := hk
    refine wpAny_bind (wpAny_mono (kat_run (Q := fun st' s' => ∃ p : Array Nat, p.size = vs.length ∧ arrOf st' = p.map (kas_item (vs.toArray.zip vs.toArray)) ∧ failedOf st' = none ∧ PM vs.length p ∧ Up lt p vs.length ∧ s' = { s with heap := H3 })
      rfl h2 h64 (fun p' st' s' a1 a2 a3 a4 => ⟨p', a1, a2, a3, a4⟩) (s_sort (s := { s with heap := H3 }) O (ask _ H3 keep3) h2 fun p a b => ⟨a, b, rfl⟩)) ?_ fun _ _ e => e)
    rintro ⟨⟨⟩, st'⟩ s' ⟨p, hp, har, hf, hP, hU, rfl⟩
    dsimp only
    have hout := kat_snds rfl har
    have hsz' : (List.toArray (p.toList.map fun i => vs.getD i Value.none)).size = vs.length := by rw [List.size_toArray, List.length_map, Array.length_toList, hp]
    rw [hout]
    have s2 := Heap.SameBut.update H3 (s.heap.objs.size + 1) (Obj.mapSeq fun _ => List.toArray (p.toList.map fun i => vs.getD i Value.none))
    obtain ⟨c2, hc2⟩ : ∃ c2, (H3.update (s.heap.objs.size + 1) (Obj.mapSeq fun _ => List.toArray (p.toList.map fun i => vs.getD i Value.none))).get? (s.heap.objs.size + 1) = some (seqObj "list" (List.toArray (p.toList.map fun i => vs.getD i Value.none)) c2) := ⟨_, get?_update_seq ho3 fun _ => List.toArray (p.toList.map fun i => vs.getD i Value.none)⟩
    refine wpAny_bind (seqEpoch_at ho3 rfl ?_)
    refine wpAny_bind (listUpdate_at ho3 rfl ?_ (Nat.zero_le _) (Nat.le_trans (Nat.le_of_eq hsz') (by rw [sizeLine_eq]; omega)))
    rw [hf]
    simp only [bne_self_eq_false, Bool.false_eq_true, if_false]
    refine wpAny_pure ⟨_, rfl, wpAny_pure ⟨_, rfl, ?_⟩⟩
    exact fin p hP hU _ _ c2 (fun b o q => (s2.2 b (hno b o q)).trans (keep3 b o q)) (none_of_le (Nat.le_succ _)) hc2
end
end Mine
end

section
open PySem
set_option autoImplicit false
set_option linter.unusedVariables false
namespace Mine
abbrev Ky := Int × List Nat
noncomputable def pv (q : Ky) : V := .tup [.int q.1, .str q.2]
def plt (a b : Ky) : Bool := decide (a.1 < b.1) || (a.1 == b.1 && decide (a.2 < b.2))
theorem plt_iff {a b : Ky} : plt a b = true ↔ a.1 < b.1 ∨ (a.1 = b.1 ∧ a.2 < b.2) := by
  unfold plt
  rw [Bool.or_eq_true, Bool.and_eq_true, decide_eq_true_eq, decide_eq_true_eq, beq_iff_eq]
theorem plt_tr {a b c : Ky} (h : plt a b = true) (k : plt b c = true) : plt a c = true := by
  rw [plt_iff] at *
  rcases h with h | ⟨h1, h2⟩ <;> rcases k with k | ⟨k1, k2⟩
  · left; omega
  · left; omega
  · left; omega
  · right; exact ⟨by omega, List.lt_trans h2 k2⟩
theorem plt_asy {a b : Ky} (h : plt a b = true) : plt b a = false := by
  cases e : plt b a with
  | false => rfl
  | true =>
    have := plt_tr h e
    rw [plt_iff] at this
    rcases this with q | ⟨_, q⟩
    · omega
    · exact absurd q (List.lt_irrefl _)
theorem plt_uniq : ∀ {l m : List Ky}, l.Perm m → l.Pairwise (fun a b => plt a b = true) → m.Pairwise (fun a b => plt a b = true) → l = m
  | [], m, p, _, _ => (List.Perm.nil_eq p)
  | a :: l, [], p, _, _ => by have := p.length_eq; cases this
  | a :: l, b :: m, p, h, k => by
    rw [List.pairwise_cons] at h k
    have ab : a = b := by
      rcases List.mem_cons.mp (p.mem_iff.mp List.mem_cons_self) with q | q
      · exact q
      · rcases List.mem_cons.mp (p.mem_iff.mpr (List.mem_cons_self (a := b) (l := m))) with z | z
        · exact z.symm
        · have := plt_asy (h.1 b z); rw [k.1 a q] at this; cases this
    subst ab
    rw [plt_uniq (List.Perm.cons_inv p) h.2 k.2]
def SortP (x o : O) : Prop := ∃ ps qs : List Ky, x.frz = .lst (ps.map pv) ∧ o = .own (qs.map pv).reverse ∧ qs.Perm ps ∧ qs.Pairwise (fun a b => plt a b = true) ∧ 2 ≤ ps.length ∧ ps.length < 64
theorem keys_at {W : WS} {h : Heap} : ∀ {ps : List Ky} {vs : List Value}, VRs W h (ps.map pv) vs → ∀ {i : Nat} {q : Ky}, ps[i]? = some q → ∃ a n t u, vs[i]? = some (.ref a) ∧ h.get? a = some (tupO #[.int q.1 t, .str ⟨q.2.toArray⟩ u] n) := by
  intro ps vs r i q e
  obtain ⟨v', e1, rv⟩ := r.get (i := i) (v := pv q) (by rw [List.getElem?_map, e]; rfl)
  obtain ⟨a, ws, n, rfl, _, h1, _, h3⟩ := VR.tup rv
  obtain ⟨w1, r1, e3, x1, h3⟩ := VRs.inv h3
  obtain ⟨w2, r2, e4, x2, h3⟩ := VRs.inv h3
  cases h3
  obtain ⟨t, rfl⟩ := x1
  obtain ⟨u, rfl, _⟩ := x2
  refine ⟨a, n, t, u, e1, ?_⟩
  rw [h1]
  have : ws = #[.int q.1 t, .str ⟨q.2.toArray⟩ u] := by
    apply Array.toList_inj.mp; rw [e3, e4]
  rw [this]
section
open PyProof.Rows PySem.W
theorem kat_tups {W : WS} {h : Heap} : ∀ {ps : List Ky} {vs : List Value}, VRs W h (ps.map pv) vs → ∃ fs : List Value, KatTups h vs fs ∧ fs.length = ps.length ∧ ∀ v ∈ fs, ∃ i t, v = .int i t
  | [], _, r => by cases r; exact ⟨[], .nil, rfl, fun _ q => by cases q⟩
  | q :: ps, _, r => by
    obtain ⟨v', r', rfl, rv, rl⟩ := VRs.inv r
    obtain ⟨fs, h1, h2, h3⟩ := kat_tups rl
    obtain ⟨a, ws, n, rfl, _, g1, _, g3⟩ := VR.tup rv
    obtain ⟨w1, r1, e3, x1, g3⟩ := VRs.inv g3
    obtain ⟨t, rfl⟩ := x1
    refine ⟨.int q.1 t :: fs, .cons g1 rfl rfl (by rw [← Array.getElem?_toList, e3]; rfl) h1, congrArg (· + 1) h2, fun v hv => ?_⟩
    rcases List.mem_cons.mp hv with rfl | hv
    · exact ⟨_, _, rfl⟩
    · exact h3 v hv
end
def PrimT (G : Gl) (d : Nat) (f : Value) (p : O → O → Prop) : Prop :=
  ∀ x o, p x o → ∀ (X : FC) (E : Value → Shared → Prop) (W : WS) (φ : Nat → List Addr) (s : Shared) (ρ : Loc), FS G d X → At X W φ s ρ → ∀ x', BR W s.heap x x' → ∀ Q, Aft W s Q o → wpAny X.C.M X.A (call f [x']) Q E s
section
variable {G : Gl} {d : Nat} {fi : FI}
noncomputable def eBiP (x : Str) (f : Value) (hf : bootBuiltins x = some f) (hk : ∀ M h, KeepsIt M h f) (p : O → O → Prop) (h : PrimT G d f p) (a : T G d fi) (p' q : Pos) (hb : isBi G fi x = true) : T G d fi :=
  .mk' (.Call (.Name x p') [a.x] [] q) (fun σ => bd (a.pk σ) fun x σ => told Tk.r? (fun _ o => p x o) id (fun _ ρ => ρ) σ) rfl
    (a.po.bd (R := fun x ρ o ρ' => p x o ∧ ρ = ρ') (fun x => Ok.told (f := Tk.r?) (p := fun _ o => p x o) (r := id) (ρ := fun _ ρ => ρ) fun o ρ q => ⟨q, rfl⟩) fun _ x _ _ _ hx q => by
      obtain ⟨q1, rfl⟩ := q
      intro X E W φ s e S F Q kk
      refine PyProof.Rows.Call_ (bi_ok S F (e ▸ hb) hf ?_)
      rw [starEach_plain (xs := [a.x]) (fun y q => by cases List.mem_singleton.mp q; exact a.pl), backTo_plain]
      refine callW (K := X.C.K) (fun h _ => hk _ h) (PySem.Calls.spliced_cons (hx X E W φ s e S F _ fun x' W' φ' s' p' r' => PySem.Calls.spliced_nil ⟨p'.f.In S, ?_⟩))
      exact h _ _ q1 X E W' φ' s' _ S p'.f _ r' _ (Aft.of p' kk)) fun _ => rfl
open PyProof.Rows PySem.W in
theorem primSort : PrimT G d (.builtin "sorted") SortP := by
  rintro x o ⟨ps, qs, hx, rfl, hp, hs, h2, h64⟩ X E W φ s ρ S F x' r Q k
  obtain ⟨a, vs, n, rfl, h1, hz, hr⟩ : ∃ a vs n, x' = .ref a ∧ s.heap.get? a = some (lstO vs n) ∧ (ps.map pv).length ≤ sizeLine ∧ VRs W s.heap (ps.map pv) vs.toList := r.list hx
  have hlen : vs.toList.length = ps.length := by rw [hr.length, List.length_map]
  have dist : ps.Pairwise (fun a b => plt a b = true ∨ plt b a = true) := (hp.pairwise_iff (fun h => h.symm)).mp (hs.imp fun h => .inl h)
  let kd : Ky := (0, [])
  have hget : ∀ {i : Nat}, i < ps.length → ps[i]? = some (ps.getD i kd) := fun h => by simp [h]
  refine sorted_tups (l := a) (vs := vs.toList) (lt := fun i j => plt (ps.getD i kd) (ps.getD j kd)) ⟨_, h1, rfl, _, rfl⟩ (by omega) (by omega) ⟨fun i j k => plt_tr, fun i j hi hj hne => ?_, fun i j => plt_asy⟩ (fun A' h' Q' keep q => ?_) (fun A' h' keep i j C hi hj c => ?_) fun p P U h' a' e' keep hn ha => ?_
  · rw [hlen] at hi hj
    rw [List.pairwise_iff_getElem] at dist
    have e1 : ps.getD i kd = ps[i] := by simp [hi]
    have e2 : ps.getD j kd = ps[j] := by simp [hj]
    rw [e1, e2]
    rcases Nat.lt_or_gt_of_ne hne with z | z
    · exact dist i j hi hj z
    · exact (dist j i hj hi z).symm
  · obtain ⟨fs, f1, f2, f3⟩ := kat_tups (VRs.ag ((Gs.of (s := s) (t := s.toks) F.f.wf keep).g.ag F.f.wf) hr)
    rw [Array.toArray_toList]
    have := kat_kind (M := X.C.M) (A := A') (E := fun _ _ => False) (s := { s with heap := h' }) (T := .type "int") (Q := Q') f1 (by omega) (fun v hv => by obtain ⟨i, t, rfl⟩ := f3 v hv; exact .now) (by decide) q
    rwa [Array.toArray_toList] at this
  · rw [hlen] at hi hj
    have g := VRs.ag ((Gs.of (s := s) (t := s.toks) F.f.wf keep).g.ag F.f.wf) hr
    obtain ⟨b, m, t, u, e1, e2⟩ := keys_at g (hget hi)
    obtain ⟨b', m', t', u', e1', e2'⟩ := keys_at g (hget hj)
    unfold kas_ask
    have d1 : vs.toList.getD i Value.none = .ref b := by rw [List.getD_eq_getElem?_getD, e1]; rfl
    have d2 : vs.toList.getD j Value.none = .ref b' := by rw [List.getD_eq_getElem?_getD, e1']; rfl
    rw [d1, d2]
    generalize ps.getD i kd = x at *
    generalize ps.getD j kd = y at *
    refine kat_lt e2 rfl e2' rfl (kat_cons (wpAny_eqBool_int ?_))
    cases q : x.1 == y.1 with
    | false =>
      refine kat_no (oneLt_int ?_)
      have : plt x y = decide (x.1 < y.1) := by unfold plt; rw [q]; simp
      rw [← this]; exact c
    | true =>
      refine kat_yes (kat_cons (eqBool_str ?_))
      have q1 := beq_iff_eq.mp q
      cases z : (⟨x.2.toArray⟩ : Str) == ⟨y.2.toArray⟩ with
      | true =>
        refine kat_yes (kat_nil ?_)
        have z1 : x.2 = y.2 := by simpa using beq_iff_eq.mp z
        have : plt x y = false := by
          cases w : plt x y with
          | false => rfl
          | true =>
            rw [plt_iff] at w
            rcases w with w | ⟨_, w⟩
            · omega
            · rw [z1] at w; exact absurd w (List.lt_irrefl _)
        rw [this] at c; exact c
      | false =>
        refine kat_no (kat_one _ _ (lt_str ?_))
        have : plt x y = decide (x.2 < y.2) := by unfold plt; rw [q]; simp [q1]
        rw [this] at c
        exact c
  · have hsz := P.size
    rw [hlen] at P U hsz
    have hper : (p.toList.map fun i => ps.getD i kd).Perm ps := by
      have h1 := P.map (fun i => ps.getD i kd)
      have h2 : (List.range ps.length).map (fun i => ps.getD i kd) = ps := by
        apply List.ext_getElem?
        intro i
        rw [List.getElem?_map]
        by_cases h : i < ps.length
        · rw [List.getElem?_range h, hget h]; rfl
        · rw [List.getElem?_eq_none (by simpa using h), List.getElem?_eq_none (by simpa using h)]; rfl
      rwa [h2] at h1
    have hpw : (p.toList.map fun i => ps.getD i kd).Pairwise (fun a b => plt a b = true) := by
      rw [List.pairwise_iff_getElem]
      intro i j hi hj hij
      rw [List.length_map, Array.length_toList] at hi hj
      have := U i j hij (by omega)
      rw [List.getElem_map, List.getElem_map]
      have ei : p.toList[i] = ga p i := by have := ga_at (p := p) hi; rw [← Array.getElem?_toList] at this; exact (List.getElem?_eq_some_iff.mp this).2
      have ej : p.toList[j] = ga p j := by have := ga_at (p := p) hj; rw [← Array.getElem?_toList] at this; exact (List.getElem?_eq_some_iff.mp this).2
      rw [ei, ej]; exact this
    have heq := plt_uniq (hper.trans hp.symm) hpw hs
    have hvr : ∀ (l : List Nat), (∀ i ∈ l, i < ps.length) → VRs W s.heap ((l.map fun i => ps.getD i kd).map pv) (l.map fun i => vs.toList.getD i Value.none) := by
      intro l
      induction l with
      | nil => intro _; exact rfl
      | cons i l ih =>
        intro h
        have hi := h i List.mem_cons_self
        obtain ⟨v', e1, rv⟩ := hr.get (i := i) (v := pv (ps.getD i kd)) (by rw [List.getElem?_map, hget hi]; rfl)
        have : vs.toList.getD i Value.none = v' := by rw [List.getD_eq_getElem?_getD, e1]; rfl
        refine .cons ?_ (ih fun j hj => h j (List.mem_cons_of_mem _ hj))
        dsimp only; rw [this]; exact rv
    refine k.listAt (t := s.toks) F.f.wf keep hn ha ?_ ?_
    · rw [List.reverse_reverse, ← heq]
      exact hvr p.toList fun i hi => List.mem_range.mp (P.mem_iff.mp hi)
    · rw [List.length_reverse, List.length_map, hp.length_eq]; rw [List.length_map] at hz; exact hz
noncomputable def eSort : T G d fi → Pos → Pos → isBi G fi "sorted" = true → T G d fi := eBiP "sorted" (.builtin "sorted") PyProof.Rows.boot_sorted (fun M h => keeper_builtin M h _) _ primSort
end
end Mine
end

section
open PySem
set_option autoImplicit false
set_option maxRecDepth 100000
namespace Mine.L01
noncomputable def z_num : List Nat := [110, 117, 109]
theorem z_num_e : ("num" : Str) = ⟨z_num.toArray⟩ := by kernel_rfl
theorem z_num_k : (PyData.strOk ⟨z_num.toArray⟩ && Nat.ble z_num.length 1000) = true := by kernel_rfl
noncomputable def z_name : List Nat := [110, 97, 109, 101]
theorem z_name_e : ("name" : Str) = ⟨z_name.toArray⟩ := by kernel_rfl
theorem z_name_k : (PyData.strOk ⟨z_name.toArray⟩ && Nat.ble z_name.length 1000) = true := by kernel_rfl
noncomputable def z_fun : List Nat := [102, 117, 110]
theorem z_fun_e : ("fun" : Str) = ⟨z_fun.toArray⟩ := by kernel_rfl
theorem z_fun_k : (PyData.strOk ⟨z_fun.toArray⟩ && Nat.ble z_fun.length 1000) = true := by kernel_rfl
noncomputable def z_let : List Nat := [108, 101, 116]
theorem z_let_e : ("let" : Str) = ⟨z_let.toArray⟩ := by kernel_rfl
theorem z_let_k : (PyData.strOk ⟨z_let.toArray⟩ && Nat.ble z_let.length 1000) = true := by kernel_rfl
noncomputable def z_abcdefghijklmnopqrstuvwxyz : List Nat := [97, 98, 99, 100, 101, 102, 103, 104, 105, 106, 107, 108, 109, 110, 111, 112, 113, 114, 115, 116, 117, 118, 119, 120, 121, 122]
theorem z_abcdefghijklmnopqrstuvwxyz_e : ("abcdefghijklmnopqrstuvwxyz" : Str) = ⟨z_abcdefghijklmnopqrstuvwxyz.toArray⟩ := by kernel_rfl
theorem z_abcdefghijklmnopqrstuvwxyz_k : (PyData.strOk ⟨z_abcdefghijklmnopqrstuvwxyz.toArray⟩ && Nat.ble z_abcdefghijklmnopqrstuvwxyz.length 1000) = true := by kernel_rfl
noncomputable def z_ : List Nat := []
theorem z__e : ("" : Str) = ⟨z_.toArray⟩ := by kernel_rfl
theorem z__k : (PyData.strOk ⟨z_.toArray⟩ && Nat.ble z_.length 1000) = true := by kernel_rfl
noncomputable def z_call : List Nat := [99, 97, 108, 108]
theorem z_call_e : ("call" : Str) = ⟨z_call.toArray⟩ := by kernel_rfl
theorem z_call_k : (PyData.strOk ⟨z_call.toArray⟩ && Nat.ble z_call.length 1000) = true := by kernel_rfl
noncomputable def z_plus : List Nat := [112, 108, 117, 115]
theorem z_plus_e : ("plus" : Str) = ⟨z_plus.toArray⟩ := by kernel_rfl
theorem z_plus_k : (PyData.strOk ⟨z_plus.toArray⟩ && Nat.ble z_plus.length 1000) = true := by kernel_rfl
noncomputable def z_less : List Nat := [108, 101, 115, 115]
theorem z_less_e : ("less" : Str) = ⟨z_less.toArray⟩ := by kernel_rfl
theorem z_less_k : (PyData.strOk ⟨z_less.toArray⟩ && Nat.ble z_less.length 1000) = true := by kernel_rfl
noncomputable def z_if : List Nat := [105, 102]
theorem z_if_e : ("if" : Str) = ⟨z_if.toArray⟩ := by kernel_rfl
theorem z_if_k : (PyData.strOk ⟨z_if.toArray⟩ && Nat.ble z_if.length 1000) = true := by kernel_rfl
noncomputable def fi_parts : FI := ⟨namesAt PySem.Challenge.pw_uf010023_01 1, [("tree", 0)]⟩
noncomputable def fd_parts : FD := ⟨["tree"], fi_parts, bodyAt PySem.Challenge.pw_uf010023_01 1⟩
noncomputable def fi_nodes : FI := ⟨namesAt PySem.Challenge.pw_uf010023_01 2, [("tree", 0), ("waiting", 1), ("many", 2)]⟩
noncomputable def fd_nodes : FD := ⟨["tree"], fi_nodes, bodyAt PySem.Challenge.pw_uf010023_01 2⟩
noncomputable def fi_free : FI := ⟨namesAt PySem.Challenge.pw_uf010023_01 3, [("tree", 0), ("found", 1), ("waiting", 2), ("node", 3), ("bound", 4), ("part", 5)]⟩
noncomputable def fd_free : FD := ⟨["tree"], fi_free, bodyAt PySem.Challenge.pw_uf010023_01 3⟩
noncomputable def fi__law_cell_at : FI := ⟨namesAt PySem.Challenge.pw_uf010023_01 5, [("_law_script", 0), ("_law_k", 1)]⟩
noncomputable def fd__law_cell_at : FD := ⟨["_law_script", "_law_k"], fi__law_cell_at, bodyAt PySem.Challenge.pw_uf010023_01 5⟩
noncomputable def fi__law_kin_by : FI := ⟨namesAt PySem.Challenge.pw_uf010023_01 6, [("_law_cell", 0), ("_law_many", 1), ("_law_letters", 2), ("_law_word", 3), ("_law_turned", 4)]⟩
noncomputable def fd__law_kin_by : FD := ⟨["_law_cell", "_law_many"], fi__law_kin_by, bodyAt PySem.Challenge.pw_uf010023_01 6⟩
noncomputable def fi__law_name_by : FI := ⟨namesAt PySem.Challenge.pw_uf010023_01 7, [("_law_cell", 0), ("_law_letters", 1), ("_law_others", 2), ("_law_turn", 3), ("_law_at", 4), ("_law_word", 5)]⟩
noncomputable def fd__law_name_by : FD := ⟨["_law_cell"], fi__law_name_by, bodyAt PySem.Challenge.pw_uf010023_01 7⟩
noncomputable def fi__law_joined : FI := ⟨namesAt PySem.Challenge.pw_uf010023_01 8, [("_law_kind", 0), ("_law_name", 1), ("_law_one", 2), ("_law_other", 3)]⟩
noncomputable def fd__law_joined : FD := ⟨["_law_kind", "_law_name", "_law_one", "_law_other"], fi__law_joined, bodyAt PySem.Challenge.pw_uf010023_01 8⟩
noncomputable def fi__law_tree_by : FI := ⟨namesAt PySem.Challenge.pw_uf010023_01 9, [("_law_cells", 0), ("_law_names", 1), ("_law_stack", 2), ("_law_cell", 3), ("_law_kind", 4), ("_law_more", 5), ("_law_name", 6), ("_law_other_name", 7), ("_law_other", 8)]⟩
noncomputable def fd__law_tree_by : FD := ⟨["_law_cells", "_law_names"], fi__law_tree_by, bodyAt PySem.Challenge.pw_uf010023_01 9⟩
noncomputable def fi__law_within : FI := ⟨namesAt PySem.Challenge.pw_uf010023_01 10, [("_law_node", 0)]⟩
noncomputable def fd__law_within : FD := ⟨["_law_node"], fi__law_within, bodyAt PySem.Challenge.pw_uf010023_01 10⟩
noncomputable def fi__law_where : FI := ⟨namesAt PySem.Challenge.pw_uf010023_01 11, [("_law_tree", 0), ("_law_name", 1), ("_law_todo", 2), ("_law_at", 3), ("_law_pair", 4), ("_law_node", 5), ("_law_some", 6), ("_law_part", 7), ("_law_inner", 8)]⟩
noncomputable def fd__law_where : FD := ⟨["_law_tree", "_law_name"], fi__law_where, bodyAt PySem.Challenge.pw_uf010023_01 11⟩
noncomputable def fi__law_parts_right : FI := ⟨namesAt PySem.Challenge.pw_uf010023_01 12, [("_law_tree", 0), ("_law_todo", 1), ("_law_count", 2), ("_law_node", 3), ("_law_due", 4), ("_law_found", 5), ("_law_k", 6)]⟩
noncomputable def fd__law_parts_right : FD := ⟨["_law_tree"], fi__law_parts_right, bodyAt PySem.Challenge.pw_uf010023_01 12⟩
noncomputable def fi_law : FI := ⟨namesAt PySem.Challenge.pw_uf010023_01 13, [("_law_script", 0), ("_law_first", 1), ("_law_many", 2), ("_law_k", 3), ("_law_names", 4), ("_law_tree", 5), ("_law_rows", 6), ("_law_due", 7), ("_law_found", 8), ("_law_size", 9), ("_law_count", 10)]⟩
noncomputable def fd_law : FD := ⟨["_law_script"], fi_law, bodyAt PySem.Challenge.pw_uf010023_01 13⟩
noncomputable def G : Gl := ⟨[("parts", 21), ("nodes", 28), ("free", 35), ("_law_cell_at", 42), ("_law_kin_by", 47), ("_law_name_by", 54), ("_law_joined", 61), ("_law_tree_by", 68), ("_law_within", 73), ("_law_where", 80), ("_law_parts_right", 87), ("law", 92)], [(21, fd_parts), (28, fd_nodes), (35, fd_free), (42, fd__law_cell_at), (47, fd__law_kin_by), (54, fd__law_name_by), (61, fd__law_joined), (68, fd__law_tree_by), (73, fd__law_within), (80, fd__law_where), (87, fd__law_parts_right), (92, fd_law)], ["len", "isinstance", "list", "tuple", "range", "reversed", "str", "int", "bool", "sorted"], [.tuple, .str, .int, .bool, .list]⟩
noncomputable def b_parts (d : Nat) : SL G d fi_parts :=
(lCons (sIte false (eBop (bCons false (eEq (eIdxV false "tree" 0 ⟨3,7,3,11⟩ (eInt 0 0 ⟨3,12,3,13⟩) ⟨3,7,3,14⟩ (by kernel_rfl)) (eStr "num" z_num 0 ⟨3,18,3,23⟩ z_num_e z_num_k) ⟨3,7,3,23⟩) (bLast .Or (eEq (eIdxV false "tree" 0 ⟨3,27,3,31⟩ (eInt 0 0 ⟨3,32,3,33⟩) ⟨3,27,3,34⟩ (by kernel_rfl)) (eStr "name" z_name 0 ⟨3,38,3,44⟩ z_name_e z_name_k) ⟨3,27,3,44⟩))) ⟨3,7,3,44⟩)
(lCons (sRet (eLst rNil ⟨4,15,4,17⟩ rfl) ⟨4,8,4,17⟩) lNil)
lNil ⟨3,4,4,17⟩) (lCons (sIte false (eBop (bCons false (eEq (eIdxV false "tree" 0 ⟨5,7,5,11⟩ (eInt 0 0 ⟨5,12,5,13⟩) ⟨5,7,5,14⟩ (by kernel_rfl)) (eStr "fun" z_fun 0 ⟨5,18,5,23⟩ z_fun_e z_fun_k) ⟨5,7,5,23⟩) (bLast .Or (eEq (eIdxV false "tree" 0 ⟨5,27,5,31⟩ (eInt 0 0 ⟨5,32,5,33⟩) ⟨5,27,5,34⟩ (by kernel_rfl)) (eStr "let" z_let 0 ⟨5,38,5,43⟩ z_let_e z_let_k) ⟨5,27,5,43⟩))) ⟨5,7,5,43⟩)
(lCons (sRet (eListT (eSlc (eVar "tree" 0 ⟨6,20,6,24⟩ (by kernel_rfl)) (dSome (eInt 2 0 ⟨6,25,6,26⟩)) dNone ⟨6,25,6,27⟩ ⟨6,20,6,28⟩) ⟨6,15,6,19⟩ ⟨6,15,6,29⟩ (by kernel_rfl)) ⟨6,8,6,29⟩) lNil)
lNil ⟨5,4,6,29⟩) (lCons (sRet (eListT (eSlc (eVar "tree" 0 ⟨7,16,7,20⟩ (by kernel_rfl)) (dSome (eInt 1 0 ⟨7,21,7,22⟩)) dNone ⟨7,21,7,23⟩ ⟨7,16,7,24⟩) ⟨7,11,7,15⟩ ⟨7,11,7,25⟩ (by kernel_rfl)) ⟨7,4,7,25⟩) lNil)))
theorem b_parts_x (d : Nat) : (b_parts d).xs = fd_parts.st := by kernel_rfl
noncomputable def c_nodes_11 (d : Nat) : T G d fi_nodes := (eNil true (eVar "waiting" 1 ⟨11,10,11,17⟩ (by kernel_rfl)) ⟨11,21,11,23⟩ ⟨11,10,11,23⟩)
noncomputable def l_nodes_11 (d : Nat) : SL G d fi_nodes :=
(lCons (sAsg "many" 2 (eAdd (eVar "many" 2 ⟨12,15,12,19⟩ (by kernel_rfl)) (eInt 1 0 ⟨12,22,12,23⟩) ⟨12,15,12,23⟩) ⟨12,8,12,12⟩ ⟨12,8,12,23⟩ (by kernel_rfl)) (lCons (sExt "waiting" 1 (eCall "parts" 21 (rCons (ePop "waiting" 1 ⟨13,29,13,36⟩ ⟨13,29,13,40⟩ ⟨13,29,13,42⟩ (by kernel_rfl)) rNil) ⟨13,23,13,28⟩ ⟨13,23,13,43⟩ (by kernel_rfl)) ⟨13,8,13,15⟩ ⟨13,8,13,22⟩ ⟨13,8,13,44⟩ ⟨13,8,13,44⟩ (by kernel_rfl)) lNil))
noncomputable def b_nodes (d : Nat) : SL G d fi_nodes :=
(lCons (sAsg "waiting" 1 (eLst (rCons (eVar "tree" 0 ⟨9,15,9,19⟩ (by kernel_rfl)) rNil) ⟨9,14,9,20⟩ rfl) ⟨9,4,9,11⟩ ⟨9,4,9,20⟩ (by kernel_rfl)) (lCons (sAsg "many" 2 (eInt 0 0 ⟨10,11,10,12⟩) ⟨10,4,10,8⟩ ⟨10,4,10,12⟩ (by kernel_rfl)) (lCons (sWhil (c_nodes_11 d) (l_nodes_11 d) ⟨11,4,13,44⟩) (lCons (sRetV "many" 2 ⟨14,11,14,15⟩ ⟨14,4,14,15⟩ (by kernel_rfl)) lNil))))
theorem b_nodes_x (d : Nat) : (b_nodes d).xs = fd_nodes.st := by kernel_rfl
noncomputable def l_free_29 (d : Nat) : SL G d fi_free :=
(lCons (sApp "waiting" 2 (eTup (rCons (eVar "part" 5 ⟨30,32,30,36⟩ (by kernel_rfl)) (rCons (eVar "bound" 4 ⟨30,38,30,43⟩ (by kernel_rfl)) rNil)) 0 ⟨30,31,30,44⟩ rfl) ⟨30,16,30,23⟩ ⟨30,16,30,30⟩ ⟨30,16,30,45⟩ ⟨30,16,30,45⟩ (by kernel_rfl)) lNil)
noncomputable def c_free_18 (d : Nat) : T G d fi_free := (eNil true (eVar "waiting" 2 ⟨18,10,18,17⟩ (by kernel_rfl)) ⟨18,21,18,23⟩ ⟨18,10,18,23⟩)
noncomputable def l_free_18 (d : Nat) : SL G d fi_free :=
(lCons (sUnp [("node", 3, ⟨19,8,19,12⟩), ("bound", 4, ⟨19,14,19,19⟩)] (ePop "waiting" 2 ⟨19,22,19,29⟩ ⟨19,22,19,33⟩ ⟨19,22,19,35⟩ (by kernel_rfl)) 0 ⟨19,8,19,19⟩ ⟨19,8,19,35⟩ (by kernel_rfl) fun _ => rfl) (lCons (sIte false (eEq (eIdxV false "node" 3 ⟨20,11,20,15⟩ (eInt 0 0 ⟨20,16,20,17⟩) ⟨20,11,20,18⟩ (by kernel_rfl)) (eStr "name" z_name 0 ⟨20,22,20,28⟩ z_name_e z_name_k) ⟨20,11,20,28⟩)
(lCons (sIte false (eBop (bCons false (eNotInP (eIdxV false "node" 3 ⟨21,15,21,19⟩ (eInt 1 0 ⟨21,20,21,21⟩) ⟨21,15,21,22⟩ (by kernel_rfl)) (eVar "bound" 4 ⟨21,30,21,35⟩ (by kernel_rfl)) ⟨21,15,21,35⟩) (bLast .And (eNotInP (eIdxV false "node" 3 ⟨21,40,21,44⟩ (eInt 1 0 ⟨21,45,21,46⟩) ⟨21,40,21,47⟩ (by kernel_rfl)) (eVar "found" 1 ⟨21,55,21,60⟩ (by kernel_rfl)) ⟨21,40,21,60⟩))) ⟨21,15,21,60⟩)
(lCons (sApp "found" 1 (eIdxV false "node" 3 ⟨22,29,22,33⟩ (eInt 1 0 ⟨22,34,22,35⟩) ⟨22,29,22,36⟩ (by kernel_rfl)) ⟨22,16,22,21⟩ ⟨22,16,22,28⟩ ⟨22,16,22,37⟩ ⟨22,16,22,37⟩ (by kernel_rfl)) lNil)
lNil ⟨21,12,22,37⟩) lNil)
(lCons (sIte false (eEq (eIdxV false "node" 3 ⟨23,13,23,17⟩ (eInt 0 0 ⟨23,18,23,19⟩) ⟨23,13,23,20⟩ (by kernel_rfl)) (eStr "fun" z_fun 0 ⟨23,24,23,29⟩ z_fun_e z_fun_k) ⟨23,13,23,29⟩)
(lCons (sApp "waiting" 2 (eTup (rCons (eIdxV false "node" 3 ⟨24,28,24,32⟩ (eInt 2 0 ⟨24,33,24,34⟩) ⟨24,28,24,35⟩ (by kernel_rfl)) (rCons (eAddT (eVar "bound" 4 ⟨24,37,24,42⟩ (by kernel_rfl)) (eTup (rCons (eIdxV false "node" 3 ⟨24,46,24,50⟩ (eInt 1 0 ⟨24,51,24,52⟩) ⟨24,46,24,53⟩ (by kernel_rfl)) rNil) 0 ⟨24,45,24,55⟩ rfl) ⟨24,37,24,55⟩) rNil)) 0 ⟨24,27,24,56⟩ rfl) ⟨24,12,24,19⟩ ⟨24,12,24,26⟩ ⟨24,12,24,57⟩ ⟨24,12,24,57⟩ (by kernel_rfl)) lNil)
(lCons (sIte false (eEq (eIdxV false "node" 3 ⟨25,13,25,17⟩ (eInt 0 0 ⟨25,18,25,19⟩) ⟨25,13,25,20⟩ (by kernel_rfl)) (eStr "let" z_let 0 ⟨25,24,25,29⟩ z_let_e z_let_k) ⟨25,13,25,29⟩)
(lCons (sApp "waiting" 2 (eTup (rCons (eIdxV false "node" 3 ⟨26,28,26,32⟩ (eInt 3 0 ⟨26,33,26,34⟩) ⟨26,28,26,35⟩ (by kernel_rfl)) (rCons (eAddT (eVar "bound" 4 ⟨26,37,26,42⟩ (by kernel_rfl)) (eTup (rCons (eIdxV false "node" 3 ⟨26,46,26,50⟩ (eInt 1 0 ⟨26,51,26,52⟩) ⟨26,46,26,53⟩ (by kernel_rfl)) rNil) 0 ⟨26,45,26,55⟩ rfl) ⟨26,37,26,55⟩) rNil)) 0 ⟨26,27,26,56⟩ rfl) ⟨26,12,26,19⟩ ⟨26,12,26,26⟩ ⟨26,12,26,57⟩ ⟨26,12,26,57⟩ (by kernel_rfl)) (lCons (sApp "waiting" 2 (eTup (rCons (eIdxV false "node" 3 ⟨27,28,27,32⟩ (eInt 2 0 ⟨27,33,27,34⟩) ⟨27,28,27,35⟩ (by kernel_rfl)) (rCons (eVar "bound" 4 ⟨27,37,27,42⟩ (by kernel_rfl)) rNil)) 0 ⟨27,27,27,43⟩ rfl) ⟨27,12,27,19⟩ ⟨27,12,27,26⟩ ⟨27,12,27,44⟩ ⟨27,12,27,44⟩ (by kernel_rfl)) lNil))
(lCons (sFor "part" (iRev (eCall "parts" 21 (rCons (eVar "node" 3 ⟨29,39,29,43⟩ (by kernel_rfl)) rNil) ⟨29,33,29,38⟩ ⟨29,33,29,44⟩ (by kernel_rfl)) ⟨29,24,29,32⟩ ⟨29,24,29,45⟩ (by kernel_rfl)) (l_free_29 d) ⟨29,16,29,20⟩ ⟨29,12,30,45⟩) lNil) ⟨25,8,30,45⟩) lNil) ⟨23,8,30,45⟩) lNil) ⟨20,8,30,45⟩) lNil))
noncomputable def b_free (d : Nat) : SL G d fi_free :=
(lCons (sAsg "found" 1 (eLst rNil ⟨16,12,16,14⟩ rfl) ⟨16,4,16,9⟩ ⟨16,4,16,14⟩ (by kernel_rfl)) (lCons (sAsg "waiting" 2 (eLst (rCons (eTup (rCons (eVar "tree" 0 ⟨17,16,17,20⟩ (by kernel_rfl)) (rCons (eTup rNil 0 ⟨17,22,17,24⟩ rfl) rNil)) 0 ⟨17,15,17,25⟩ rfl) rNil) ⟨17,14,17,26⟩ rfl) ⟨17,4,17,11⟩ ⟨17,4,17,26⟩ (by kernel_rfl)) (lCons (sWhil (c_free_18 d) (l_free_18 d) ⟨18,4,30,45⟩) (lCons (sRetV "found" 1 ⟨31,11,31,16⟩ ⟨31,4,31,16⟩ (by kernel_rfl)) lNil))))
theorem b_free_x (d : Nat) : (b_free d).xs = fd_free.st := by kernel_rfl
noncomputable def b__law_cell_at (d : Nat) : SL G d fi__law_cell_at :=
(lCons (sIte true (eLt (eVar "_law_k" 1 ⟨34,7,34,13⟩ (by kernel_rfl)) (eLen (eVar "_law_script" 0 ⟨34,20,34,31⟩ (by kernel_rfl)) ⟨34,16,34,19⟩ ⟨34,16,34,32⟩ (by kernel_rfl)) ⟨34,7,34,32⟩)
(lCons (sRet (eIdxV true "_law_script" 0 ⟨35,15,35,26⟩ (eVar "_law_k" 1 ⟨35,27,35,33⟩ (by kernel_rfl)) ⟨35,15,35,34⟩ (by kernel_rfl)) ⟨35,8,35,34⟩) lNil)
lNil ⟨34,4,35,34⟩) (lCons (sRet (eInt 0 0 ⟨36,11,36,12⟩) ⟨36,4,36,12⟩) lNil))
theorem b__law_cell_at_x (d : Nat) : (b__law_cell_at d).xs = fd__law_cell_at.st := by kernel_rfl
noncomputable def s__law_kin_by_39_24 : Scope := ⟨.function, [(".0", .local), ("_law_k", .local), ("_law_cell", .free), ("_law_letters", .free)], false, false, []⟩
noncomputable def e__law_kin_by_39_24 (d : Nat) : T G d (fi__law_kin_by.inner s__law_kin_by_39_24 "_law_k" 5) := (eIdxV true "_law_letters" 2 ⟨39,25,39,37⟩ (eMod (eAdd (eVar "_law_cell" 0 ⟨39,39,39,48⟩ (by kernel_rfl)) (eMul (eInt 3 0 ⟨39,51,39,52⟩) (eVar "_law_k" 5 ⟨39,55,39,61⟩ (by kernel_rfl)) ⟨39,51,39,61⟩) ⟨39,39,39,61⟩) (eInt 26 0 ⟨39,65,39,67⟩) ⟨39,38,39,67⟩) ⟨39,25,39,68⟩ (by kernel_rfl))
noncomputable def s__law_kin_by_41_15 : Scope := ⟨.function, [(".0", .local), ("_law_k", .local), ("_law_word", .free)], false, false, []⟩
noncomputable def e__law_kin_by_41_15 (d : Nat) : T G d (fi__law_kin_by.inner s__law_kin_by_41_15 "_law_k" 5) := (eSlc (eVar "_law_word" 3 ⟨41,16,41,25⟩ (by kernel_rfl)) dNone (dSome (eAdd (eVar "_law_k" 5 ⟨41,27,41,33⟩ (by kernel_rfl)) (eInt 1 0 ⟨41,36,41,37⟩) ⟨41,27,41,37⟩)) ⟨41,26,41,37⟩ ⟨41,16,41,38⟩)
noncomputable def s__law_kin_by_42_18 : Scope := ⟨.function, [(".0", .local), ("_law_k", .local), ("_law_word", .free)], false, false, []⟩
noncomputable def e__law_kin_by_42_18 (d : Nat) : T G d (fi__law_kin_by.inner s__law_kin_by_42_18 "_law_k" 5) := (eCat (eSlc (eVar "_law_word" 3 ⟨42,19,42,28⟩ (by kernel_rfl)) (dSome (eVar "_law_k" 5 ⟨42,29,42,35⟩ (by kernel_rfl))) dNone ⟨42,29,42,36⟩ ⟨42,19,42,37⟩) (eSlc (eVar "_law_word" 3 ⟨42,40,42,49⟩ (by kernel_rfl)) dNone (dSome (eVar "_law_k" 5 ⟨42,51,42,57⟩ (by kernel_rfl))) ⟨42,50,42,57⟩ ⟨42,40,42,58⟩) ⟨42,19,42,58⟩)
noncomputable def s__law_kin_by_43_26 : Scope := ⟨.function, [(".0", .local), ("_law_one", .local)], false, false, []⟩
noncomputable def e__law_kin_by_43_26 (d : Nat) : T G d (fi__law_kin_by.inner s__law_kin_by_43_26 "_law_one" 5) := (eRev (eVar "_law_one" 5 ⟨43,27,43,35⟩ (by kernel_rfl)) 0 ⟨43,39,43,40⟩ ⟨43,38,43,40⟩ ⟨43,36,43,40⟩ ⟨43,27,43,41⟩)
noncomputable def b__law_kin_by (d : Nat) : SL G d fi__law_kin_by :=
(lCons (sAsg "_law_letters" 2 (eStr "abcdefghijklmnopqrstuvwxyz" z_abcdefghijklmnopqrstuvwxyz 0 ⟨38,19,38,47⟩ z_abcdefghijklmnopqrstuvwxyz_e z_abcdefghijklmnopqrstuvwxyz_k) ⟨38,4,38,16⟩ ⟨38,4,38,47⟩ (by kernel_rfl)) (lCons (sAsg "_law_word" 3 (eJoin "" z_ 0 ⟨39,16,39,18⟩ (eComp "_law_k" 5 ⟨39,73,39,79⟩ (iRange (rCons (eInt 8 0 ⟨39,89,39,90⟩) rNil) ⟨39,83,39,88⟩ ⟨39,83,39,91⟩ (by kernel_rfl)) s__law_kin_by_39_24 (e__law_kin_by_39_24 d) ⟨39,24,39,92⟩ (by kernel_rfl)) ⟨39,16,39,23⟩ ⟨39,16,39,93⟩ z__e (by kernel_rfl)) ⟨39,4,39,13⟩ ⟨39,4,39,93⟩ (by kernel_rfl)) (lCons (sIte false (eBop (bCons true (eEq (eMod (eDiv (eVar "_law_cell" 0 ⟨40,7,40,16⟩ (by kernel_rfl)) (eInt 26 0 ⟨40,20,40,22⟩) ⟨40,7,40,22⟩) (eInt 2 0 ⟨40,25,40,26⟩) ⟨40,7,40,26⟩) (eInt 0 0 ⟨40,30,40,31⟩) ⟨40,7,40,31⟩) (bLast .And (eLt (eVar "_law_many" 1 ⟨40,36,40,45⟩ (by kernel_rfl)) (eInt 9 0 ⟨40,48,40,49⟩) ⟨40,36,40,49⟩))) ⟨40,7,40,49⟩)
(lCons (sRet (eComp "_law_k" 5 ⟨41,43,41,49⟩ (iRange (rCons (eVar "_law_many" 1 ⟨41,59,41,68⟩ (by kernel_rfl)) rNil) ⟨41,53,41,58⟩ ⟨41,53,41,69⟩ (by kernel_rfl)) s__law_kin_by_41_15 (e__law_kin_by_41_15 d) ⟨41,15,41,70⟩ (by kernel_rfl)) ⟨41,8,41,70⟩) lNil)
lNil ⟨40,4,41,70⟩) (lCons (sAsgC "_law_turned" 4 ⟨42,4,42,15⟩ ⟨42,4,42,82⟩ "_law_k" 5 ⟨42,63,42,69⟩ (iRange (rCons (eInt 8 0 ⟨42,79,42,80⟩) rNil) ⟨42,73,42,78⟩ ⟨42,73,42,81⟩ (by kernel_rfl)) s__law_kin_by_42_18 (e__law_kin_by_42_18 d) ⟨42,18,42,82⟩ (by kernel_rfl)) (lCons (sRet (eSlc (eAddL (eVar "_law_turned" 4 ⟨43,12,43,23⟩ (by kernel_rfl)) (eComp "_law_one" 5 ⟨43,46,43,54⟩ (iList (eVar "_law_turned" 4 ⟨43,58,43,69⟩ (by kernel_rfl))) s__law_kin_by_43_26 (e__law_kin_by_43_26 d) ⟨43,26,43,70⟩ (by kernel_rfl)) ⟨43,12,43,70⟩) dNone (dSome (eVar "_law_many" 1 ⟨43,73,43,82⟩ (by kernel_rfl))) ⟨43,72,43,82⟩ ⟨43,11,43,83⟩) ⟨43,4,43,83⟩) lNil)))))
theorem b__law_kin_by_x (d : Nat) : (b__law_kin_by d).xs = fd__law_kin_by.st := by kernel_rfl
noncomputable def l__law_name_by_47 (d : Nat) : SL G d fi__law_name_by :=
(lCons (sAsg "_law_others" 2 (eCat (eVar "_law_others" 2 ⟨48,22,48,33⟩ (by kernel_rfl)) (eIdxV true "_law_letters" 1 ⟨48,36,48,48⟩ (eMod (eAdd (eDiv (eVar "_law_cell" 0 ⟨48,50,48,59⟩ (by kernel_rfl)) (eInt 208 0 ⟨48,63,48,66⟩) ⟨48,50,48,66⟩) (eMul (eInt 5 0 ⟨48,69,48,70⟩) (eVar "_law_turn" 3 ⟨48,73,48,82⟩ (by kernel_rfl)) ⟨48,69,48,82⟩) ⟨48,50,48,82⟩) (eInt 26 0 ⟨48,86,48,88⟩) ⟨48,49,48,88⟩) ⟨48,36,48,89⟩ (by kernel_rfl)) ⟨48,22,48,89⟩) ⟨48,8,48,19⟩ ⟨48,8,48,89⟩ (by kernel_rfl)) lNil)
noncomputable def b__law_name_by (d : Nat) : SL G d fi__law_name_by :=
(lCons (sAsg "_law_letters" 1 (eStr "abcdefghijklmnopqrstuvwxyz" z_abcdefghijklmnopqrstuvwxyz 0 ⟨45,19,45,47⟩ z_abcdefghijklmnopqrstuvwxyz_e z_abcdefghijklmnopqrstuvwxyz_k) ⟨45,4,45,16⟩ ⟨45,4,45,47⟩ (by kernel_rfl)) (lCons (sAsg "_law_others" 2 (eStr "" z_ 0 ⟨46,18,46,20⟩ z__e z__k) ⟨46,4,46,15⟩ ⟨46,4,46,20⟩ (by kernel_rfl)) (lCons (sFor "_law_turn" (iRange (rCons (eMod (eDiv (eVar "_law_cell" 0 ⟨47,27,47,36⟩ (by kernel_rfl)) (eInt 26 0 ⟨47,40,47,42⟩) ⟨47,27,47,42⟩) (eInt 8 0 ⟨47,45,47,46⟩) ⟨47,27,47,46⟩) rNil) ⟨47,21,47,26⟩ ⟨47,21,47,47⟩ (by kernel_rfl)) (l__law_name_by_47 d) ⟨47,8,47,17⟩ ⟨47,4,48,89⟩) (lCons (sAsg "_law_at" 4 (eMod (eDiv (eVar "_law_cell" 0 ⟨49,14,49,23⟩ (by kernel_rfl)) (eInt 208 0 ⟨49,27,49,30⟩) ⟨49,14,49,30⟩) (eAdd (eInt 1 0 ⟨49,34,49,35⟩) (eLen (eVar "_law_others" 2 ⟨49,42,49,53⟩ (by kernel_rfl)) ⟨49,38,49,41⟩ ⟨49,38,49,54⟩ (by kernel_rfl)) ⟨49,34,49,54⟩) ⟨49,14,49,55⟩) ⟨49,4,49,11⟩ ⟨49,4,49,55⟩ (by kernel_rfl)) (lCons (sAsg "_law_word" 5 (eCat (eCat (eSlc (eVar "_law_others" 2 ⟨50,16,50,27⟩ (by kernel_rfl)) dNone (dSome (eVar "_law_at" 4 ⟨50,29,50,36⟩ (by kernel_rfl))) ⟨50,28,50,36⟩ ⟨50,16,50,37⟩) (eIdxV true "_law_letters" 1 ⟨50,40,50,52⟩ (eMod (eVar "_law_cell" 0 ⟨50,53,50,62⟩ (by kernel_rfl)) (eInt 26 0 ⟨50,65,50,67⟩) ⟨50,53,50,67⟩) ⟨50,40,50,68⟩ (by kernel_rfl)) ⟨50,16,50,68⟩) (eSlc (eVar "_law_others" 2 ⟨50,71,50,82⟩ (by kernel_rfl)) (dSome (eVar "_law_at" 4 ⟨50,83,50,90⟩ (by kernel_rfl))) dNone ⟨50,83,50,91⟩ ⟨50,71,50,92⟩) ⟨50,16,50,92⟩) ⟨50,4,50,13⟩ ⟨50,4,50,92⟩ (by kernel_rfl)) (lCons (sIte true (eIn (eVar "_law_word" 5 ⟨51,7,51,16⟩ (by kernel_rfl)) (eTup (rCons (eStr "num" z_num 0 ⟨51,21,51,26⟩ z_num_e z_num_k) (rCons (eStr "name" z_name 0 ⟨51,28,51,34⟩ z_name_e z_name_k) (rCons (eStr "fun" z_fun 0 ⟨51,36,51,41⟩ z_fun_e z_fun_k) (rCons (eStr "call" z_call 0 ⟨51,43,51,49⟩ z_call_e z_call_k) (rCons (eStr "plus" z_plus 0 ⟨51,51,51,57⟩ z_plus_e z_plus_k) (rCons (eStr "less" z_less 0 ⟨51,59,51,65⟩ z_less_e z_less_k) (rCons (eStr "if" z_if 0 ⟨51,67,51,71⟩ z_if_e z_if_k) (rCons (eStr "let" z_let 0 ⟨51,73,51,78⟩ z_let_e z_let_k) rNil)))))))) 0 ⟨51,20,51,79⟩ rfl) ⟨51,7,51,79⟩)
(lCons (sRet (eIdxV true "_law_letters" 1 ⟨52,15,52,27⟩ (eMod (eVar "_law_cell" 0 ⟨52,28,52,37⟩ (by kernel_rfl)) (eInt 26 0 ⟨52,40,52,42⟩) ⟨52,28,52,42⟩) ⟨52,15,52,43⟩ (by kernel_rfl)) ⟨52,8,52,43⟩) lNil)
lNil ⟨51,4,52,43⟩) (lCons (sRetV "_law_word" 5 ⟨53,11,53,20⟩ ⟨53,4,53,20⟩ (by kernel_rfl)) lNil)))))))
theorem b__law_name_by_x (d : Nat) : (b__law_name_by d).xs = fd__law_name_by.st := by kernel_rfl
noncomputable def b__law_joined (d : Nat) : SL G d fi__law_joined :=
(lCons (sIte false (eEq (eVar "_law_kind" 0 ⟨55,7,55,16⟩ (by kernel_rfl)) (eInt 6 0 ⟨55,20,55,21⟩) ⟨55,7,55,21⟩)
(lCons (sRet (eTup (rCons (eStr "call" z_call 0 ⟨56,16,56,22⟩ z_call_e z_call_k) (rCons (eTup (rCons (eStr "fun" z_fun 0 ⟨56,25,56,30⟩ z_fun_e z_fun_k) (rCons (eVar "_law_name" 1 ⟨56,32,56,41⟩ (by kernel_rfl)) (rCons (eVar "_law_one" 2 ⟨56,43,56,51⟩ (by kernel_rfl)) rNil))) 0 ⟨56,24,56,52⟩ rfl) (rCons (eVar "_law_other" 3 ⟨56,54,56,64⟩ (by kernel_rfl)) rNil))) 0 ⟨56,15,56,65⟩ rfl) ⟨56,8,56,65⟩) lNil)
lNil ⟨55,4,56,65⟩) (lCons (sIte false (eEq (eVar "_law_kind" 0 ⟨57,7,57,16⟩ (by kernel_rfl)) (eInt 7 0 ⟨57,20,57,21⟩) ⟨57,7,57,21⟩)
(lCons (sRet (eTup (rCons (eStr "plus" z_plus 0 ⟨58,16,58,22⟩ z_plus_e z_plus_k) (rCons (eVar "_law_one" 2 ⟨58,24,58,32⟩ (by kernel_rfl)) (rCons (eVar "_law_other" 3 ⟨58,34,58,44⟩ (by kernel_rfl)) rNil))) 0 ⟨58,15,58,45⟩ rfl) ⟨58,8,58,45⟩) lNil)
lNil ⟨57,4,58,45⟩) (lCons (sIte false (eEq (eVar "_law_kind" 0 ⟨59,7,59,16⟩ (by kernel_rfl)) (eInt 8 0 ⟨59,20,59,21⟩) ⟨59,7,59,21⟩)
(lCons (sRet (eTup (rCons (eStr "less" z_less 0 ⟨60,16,60,22⟩ z_less_e z_less_k) (rCons (eVar "_law_one" 2 ⟨60,24,60,32⟩ (by kernel_rfl)) (rCons (eVar "_law_other" 3 ⟨60,34,60,44⟩ (by kernel_rfl)) rNil))) 0 ⟨60,15,60,45⟩ rfl) ⟨60,8,60,45⟩) lNil)
lNil ⟨59,4,60,45⟩) (lCons (sIte false (eEq (eVar "_law_kind" 0 ⟨61,7,61,16⟩ (by kernel_rfl)) (eInt 9 0 ⟨61,20,61,21⟩) ⟨61,7,61,21⟩)
(lCons (sRet (eTup (rCons (eStr "if" z_if 0 ⟨62,16,62,20⟩ z_if_e z_if_k) (rCons (eVar "_law_one" 2 ⟨62,22,62,30⟩ (by kernel_rfl)) (rCons (eVar "_law_other" 3 ⟨62,32,62,42⟩ (by kernel_rfl)) (rCons (eTup (rCons (eStr "name" z_name 0 ⟨62,45,62,51⟩ z_name_e z_name_k) (rCons (eVar "_law_name" 1 ⟨62,53,62,62⟩ (by kernel_rfl)) rNil)) 0 ⟨62,44,62,63⟩ rfl) rNil)))) 0 ⟨62,15,62,64⟩ rfl) ⟨62,8,62,64⟩) lNil)
lNil ⟨61,4,62,64⟩) (lCons (sRet (eTup (rCons (eStr "let" z_let 0 ⟨63,12,63,17⟩ z_let_e z_let_k) (rCons (eVar "_law_name" 1 ⟨63,19,63,28⟩ (by kernel_rfl)) (rCons (eVar "_law_one" 2 ⟨63,30,63,38⟩ (by kernel_rfl)) (rCons (eVar "_law_other" 3 ⟨63,40,63,50⟩ (by kernel_rfl)) rNil)))) 0 ⟨63,11,63,51⟩ rfl) ⟨63,4,63,51⟩) lNil)))))
theorem b__law_joined_x (d : Nat) : (b__law_joined d).xs = fd__law_joined.st := by kernel_rfl
noncomputable def l__law_tree_by_66 (d : Nat) : SL G d fi__law_tree_by :=
(lCons (sAsg "_law_kind" 4 (eTell (eMod (eVar "_law_cell" 3 ⟨67,20,67,29⟩ (by kernel_rfl)) (eInt 12 0 ⟨67,32,67,34⟩) ⟨67,20,67,34⟩)) ⟨67,8,67,17⟩ ⟨67,8,67,34⟩ (by kernel_rfl)) (lCons (sAsg "_law_more" 5 (eDiv (eVar "_law_cell" 3 ⟨68,20,68,29⟩ (by kernel_rfl)) (eInt 12 0 ⟨68,33,68,35⟩) ⟨68,20,68,35⟩) ⟨68,8,68,17⟩ ⟨68,8,68,35⟩ (by kernel_rfl)) (lCons (sAsg "_law_name" 6 (eIdxV true "_law_names" 1 ⟨69,20,69,30⟩ (eMod (eVar "_law_more" 5 ⟨69,31,69,40⟩ (by kernel_rfl)) (eLen (eVar "_law_names" 1 ⟨69,47,69,57⟩ (by kernel_rfl)) ⟨69,43,69,46⟩ ⟨69,43,69,58⟩ (by kernel_rfl)) ⟨69,31,69,58⟩) ⟨69,20,69,59⟩ (by kernel_rfl)) ⟨69,8,69,17⟩ ⟨69,8,69,59⟩ (by kernel_rfl)) (lCons (sAsg "_law_other_name" 7 (eIdxV true "_law_names" 1 ⟨70,26,70,36⟩ (eMod (eDiv (eVar "_law_more" 5 ⟨70,37,70,46⟩ (by kernel_rfl)) (eLen (eVar "_law_names" 1 ⟨70,54,70,64⟩ (by kernel_rfl)) ⟨70,50,70,53⟩ ⟨70,50,70,65⟩ (by kernel_rfl)) ⟨70,37,70,65⟩) (eLen (eVar "_law_names" 1 ⟨70,72,70,82⟩ (by kernel_rfl)) ⟨70,68,70,71⟩ ⟨70,68,70,83⟩ (by kernel_rfl)) ⟨70,37,70,83⟩) ⟨70,26,70,84⟩ (by kernel_rfl)) ⟨70,8,70,23⟩ ⟨70,8,70,84⟩ (by kernel_rfl)) (lCons (sIte false (eBop (bCons false (eEq (eVar "_law_kind" 4 ⟨71,11,71,20⟩ (by kernel_rfl)) (eInt 0 0 ⟨71,24,71,25⟩) ⟨71,11,71,25⟩) (bLast .Or (eBop (bCons false (eNot (eVar "_law_stack" 2 ⟨71,34,71,44⟩ (by kernel_rfl)) ⟨71,30,71,44⟩) (bLast .And (eEq (eMod (eVar "_law_kind" 4 ⟨71,49,71,58⟩ (by kernel_rfl)) (eInt 2 0 ⟨71,61,71,62⟩) ⟨71,49,71,62⟩) (eInt 1 0 ⟨71,66,71,67⟩) ⟨71,49,71,67⟩))) ⟨71,30,71,67⟩))) ⟨71,11,71,68⟩)
(lCons (sApp "_law_stack" 2 (eTup (rCons (eStr "name" z_name 0 ⟨72,31,72,37⟩ z_name_e z_name_k) (rCons (eVar "_law_name" 6 ⟨72,39,72,48⟩ (by kernel_rfl)) rNil)) 0 ⟨72,30,72,49⟩ rfl) ⟨72,12,72,22⟩ ⟨72,12,72,29⟩ ⟨72,12,72,50⟩ ⟨72,12,72,50⟩ (by kernel_rfl)) lNil)
(lCons (sIte false (eBop (bCons false (eLt (eVar "_law_kind" 4 ⟨73,13,73,22⟩ (by kernel_rfl)) (eInt 3 0 ⟨73,25,73,26⟩) ⟨73,13,73,26⟩) (bLast .Or (eNot (eVar "_law_stack" 2 ⟨73,34,73,44⟩ (by kernel_rfl)) ⟨73,30,73,44⟩))) ⟨73,13,73,44⟩)
(lCons (sApp "_law_stack" 2 (eTup (rCons (eStr "num" z_num 0 ⟨74,31,74,36⟩ z_num_e z_num_k) (rCons (eAdd (eSub (eMod (eVar "_law_more" 5 ⟨74,38,74,47⟩ (by kernel_rfl)) (eSub (eMul (eInt 2 0 ⟨74,51,74,52⟩) (ePow (eInt 10 0 ⟨74,55,74,57⟩) (eInt 60 0 ⟨74,61,74,63⟩) ⟨74,55,74,63⟩) ⟨74,51,74,63⟩) (eInt 1 0 ⟨74,66,74,67⟩) ⟨74,51,74,67⟩) ⟨74,38,74,68⟩) (ePow (eInt 10 0 ⟨74,71,74,73⟩) (eInt 60 0 ⟨74,77,74,79⟩) ⟨74,71,74,79⟩) ⟨74,38,74,79⟩) (eInt 1 0 ⟨74,82,74,83⟩) ⟨74,38,74,83⟩) rNil)) 0 ⟨74,30,74,84⟩ rfl) ⟨74,12,74,22⟩ ⟨74,12,74,29⟩ ⟨74,12,74,85⟩ ⟨74,12,74,85⟩ (by kernel_rfl)) lNil)
(lCons (sIte false (eEq (eVar "_law_kind" 4 ⟨75,13,75,22⟩ (by kernel_rfl)) (eInt 3 0 ⟨75,26,75,27⟩) ⟨75,13,75,27⟩)
(lCons (sSet "_law_stack" 2 (eNeg (eInt 1 0 ⟨76,24,76,25⟩) ⟨76,23,76,25⟩) (eTup (rCons (eStr "fun" z_fun 0 ⟨76,30,76,35⟩ z_fun_e z_fun_k) (rCons (eVar "_law_name" 6 ⟨76,37,76,46⟩ (by kernel_rfl)) (rCons (eIdxV false "_law_stack" 2 ⟨76,48,76,58⟩ (eNeg (eInt 1 0 ⟨76,60,76,61⟩) ⟨76,59,76,61⟩) ⟨76,48,76,62⟩ (by kernel_rfl)) rNil))) 0 ⟨76,29,76,63⟩ rfl) ⟨76,12,76,22⟩ ⟨76,12,76,26⟩ ⟨76,12,76,63⟩ (by kernel_rfl)) lNil)
(lCons (sIte false (eEq (eVar "_law_kind" 4 ⟨77,13,77,22⟩ (by kernel_rfl)) (eInt 4 0 ⟨77,26,77,27⟩) ⟨77,13,77,27⟩)
(lCons (sSet "_law_stack" 2 (eNeg (eInt 1 0 ⟨78,24,78,25⟩) ⟨78,23,78,25⟩) (eTup (rCons (eStr "call" z_call 0 ⟨78,30,78,36⟩ z_call_e z_call_k) (rCons (eTup (rCons (eStr "fun" z_fun 0 ⟨78,39,78,44⟩ z_fun_e z_fun_k) (rCons (eVar "_law_name" 6 ⟨78,46,78,55⟩ (by kernel_rfl)) (rCons (eIdxV false "_law_stack" 2 ⟨78,57,78,67⟩ (eNeg (eInt 1 0 ⟨78,69,78,70⟩) ⟨78,68,78,70⟩) ⟨78,57,78,71⟩ (by kernel_rfl)) rNil))) 0 ⟨78,38,78,72⟩ rfl) (rCons (eTup (rCons (eStr "name" z_name 0 ⟨78,75,78,81⟩ z_name_e z_name_k) (rCons (eVar "_law_name" 6 ⟨78,83,78,92⟩ (by kernel_rfl)) rNil)) 0 ⟨78,74,78,93⟩ rfl) rNil))) 0 ⟨78,29,78,94⟩ rfl) ⟨78,12,78,22⟩ ⟨78,12,78,26⟩ ⟨78,12,78,94⟩ (by kernel_rfl)) lNil)
(lCons (sIte false (eEq (eVar "_law_kind" 4 ⟨79,13,79,22⟩ (by kernel_rfl)) (eInt 5 0 ⟨79,26,79,27⟩) ⟨79,13,79,27⟩)
(lCons (sSet "_law_stack" 2 (eNeg (eInt 1 0 ⟨80,24,80,25⟩) ⟨80,23,80,25⟩) (eTup (rCons (eStr "let" z_let 0 ⟨80,30,80,35⟩ z_let_e z_let_k) (rCons (eVar "_law_name" 6 ⟨80,37,80,46⟩ (by kernel_rfl)) (rCons (eIdxV false "_law_stack" 2 ⟨80,48,80,58⟩ (eNeg (eInt 1 0 ⟨80,60,80,61⟩) ⟨80,59,80,61⟩) ⟨80,48,80,62⟩ (by kernel_rfl)) (rCons (eTup (rCons (eStr "call" z_call 0 ⟨80,65,80,71⟩ z_call_e z_call_k) (rCons (eTup (rCons (eStr "name" z_name 0 ⟨80,74,80,80⟩ z_name_e z_name_k) (rCons (eVar "_law_name" 6 ⟨80,82,80,91⟩ (by kernel_rfl)) rNil)) 0 ⟨80,73,80,92⟩ rfl) (rCons (eTup (rCons (eStr "name" z_name 0 ⟨80,95,80,101⟩ z_name_e z_name_k) (rCons (eVar "_law_other_name" 7 ⟨80,103,80,118⟩ (by kernel_rfl)) rNil)) 0 ⟨80,94,80,119⟩ rfl) rNil))) 0 ⟨80,64,80,120⟩ rfl) rNil)))) 0 ⟨80,29,80,121⟩ rfl) ⟨80,12,80,22⟩ ⟨80,12,80,26⟩ ⟨80,12,80,121⟩ (by kernel_rfl)) lNil)
(lCons (sIte false (eEq (eVar "_law_kind" 4 ⟨81,13,81,22⟩ (by kernel_rfl)) (eInt 11 0 ⟨81,26,81,28⟩) ⟨81,13,81,28⟩)
(lCons (sApp "_law_stack" 2 (eTup (rCons (eStr "fun" z_fun 0 ⟨82,31,82,36⟩ z_fun_e z_fun_k) (rCons (eVar "_law_name" 6 ⟨82,38,82,47⟩ (by kernel_rfl)) (rCons (eTup (rCons (eStr "call" z_call 0 ⟨82,50,82,56⟩ z_call_e z_call_k) (rCons (eTup (rCons (eStr "name" z_name 0 ⟨82,59,82,65⟩ z_name_e z_name_k) (rCons (eVar "_law_name" 6 ⟨82,67,82,76⟩ (by kernel_rfl)) rNil)) 0 ⟨82,58,82,77⟩ rfl) (rCons (eTup (rCons (eStr "name" z_name 0 ⟨82,80,82,86⟩ z_name_e z_name_k) (rCons (eVar "_law_other_name" 7 ⟨82,88,82,103⟩ (by kernel_rfl)) rNil)) 0 ⟨82,79,82,104⟩ rfl) rNil))) 0 ⟨82,49,82,105⟩ rfl) rNil))) 0 ⟨82,30,82,106⟩ rfl) ⟨82,12,82,22⟩ ⟨82,12,82,29⟩ ⟨82,12,82,107⟩ ⟨82,12,82,107⟩ (by kernel_rfl)) lNil)
(lCons (sIte false (eEq (eLen (eVar "_law_stack" 2 ⟨83,17,83,27⟩ (by kernel_rfl)) ⟨83,13,83,16⟩ ⟨83,13,83,28⟩ (by kernel_rfl)) (eInt 1 0 ⟨83,32,83,33⟩) ⟨83,13,83,33⟩)
(lCons (sSet "_law_stack" 2 (eNeg (eInt 1 0 ⟨84,24,84,25⟩) ⟨84,23,84,25⟩) (eTup (rCons (eStr "plus" z_plus 0 ⟨84,30,84,36⟩ z_plus_e z_plus_k) (rCons (eTup (rCons (eStr "num" z_num 0 ⟨84,39,84,44⟩ z_num_e z_num_k) (rCons (eMod (eVar "_law_more" 5 ⟨84,46,84,55⟩ (by kernel_rfl)) (ePow (eInt 10 0 ⟨84,58,84,60⟩) (eInt 60 0 ⟨84,64,84,66⟩) ⟨84,58,84,66⟩) ⟨84,46,84,66⟩) rNil)) 0 ⟨84,38,84,67⟩ rfl) (rCons (eIdxV false "_law_stack" 2 ⟨84,69,84,79⟩ (eNeg (eInt 1 0 ⟨84,81,84,82⟩) ⟨84,80,84,82⟩) ⟨84,69,84,83⟩ (by kernel_rfl)) rNil))) 0 ⟨84,29,84,84⟩ rfl) ⟨84,12,84,22⟩ ⟨84,12,84,26⟩ ⟨84,12,84,84⟩ (by kernel_rfl)) lNil)
(lCons (sAsg "_law_other" 8 (ePop "_law_stack" 2 ⟨86,25,86,35⟩ ⟨86,25,86,39⟩ ⟨86,25,86,41⟩ (by kernel_rfl)) ⟨86,12,86,22⟩ ⟨86,12,86,41⟩ (by kernel_rfl)) (lCons (sSet "_law_stack" 2 (eNeg (eInt 1 0 ⟨87,24,87,25⟩) ⟨87,23,87,25⟩) (eCall "_law_joined" 61 (rCons (eVar "_law_kind" 4 ⟨87,41,87,50⟩ (by kernel_rfl)) (rCons (eVar "_law_name" 6 ⟨87,52,87,61⟩ (by kernel_rfl)) (rCons (eIdxV false "_law_stack" 2 ⟨87,63,87,73⟩ (eNeg (eInt 1 0 ⟨87,75,87,76⟩) ⟨87,74,87,76⟩) ⟨87,63,87,77⟩ (by kernel_rfl)) (rCons (eVar "_law_other" 8 ⟨87,79,87,89⟩ (by kernel_rfl)) rNil)))) ⟨87,29,87,40⟩ ⟨87,29,87,90⟩ (by kernel_rfl)) ⟨87,12,87,22⟩ ⟨87,12,87,26⟩ ⟨87,12,87,90⟩ (by kernel_rfl)) lNil)) ⟨83,8,87,90⟩) lNil) ⟨81,8,87,90⟩) lNil) ⟨79,8,87,90⟩) lNil) ⟨77,8,87,90⟩) lNil) ⟨75,8,87,90⟩) lNil) ⟨73,8,87,90⟩) lNil) ⟨71,8,87,90⟩) lNil)))))
noncomputable def c__law_tree_by_88 (d : Nat) : T G d fi__law_tree_by := (eGt (eLen (eVar "_law_stack" 2 ⟨88,14,88,24⟩ (by kernel_rfl)) ⟨88,10,88,13⟩ ⟨88,10,88,25⟩ (by kernel_rfl)) (eInt 1 0 ⟨88,28,88,29⟩) ⟨88,10,88,29⟩)
noncomputable def l__law_tree_by_88 (d : Nat) : SL G d fi__law_tree_by :=
(lCons (sAsg "_law_other" 8 (ePop "_law_stack" 2 ⟨89,21,89,31⟩ ⟨89,21,89,35⟩ ⟨89,21,89,37⟩ (by kernel_rfl)) ⟨89,8,89,18⟩ ⟨89,8,89,37⟩ (by kernel_rfl)) (lCons (sSet "_law_stack" 2 (eNeg (eInt 1 0 ⟨90,20,90,21⟩) ⟨90,19,90,21⟩) (eTup (rCons (eStr "let" z_let 0 ⟨90,26,90,31⟩ z_let_e z_let_k) (rCons (eIdxV true "_law_names" 1 ⟨90,33,90,43⟩ (eMod (eLen (eVar "_law_stack" 2 ⟨90,48,90,58⟩ (by kernel_rfl)) ⟨90,44,90,47⟩ ⟨90,44,90,59⟩ (by kernel_rfl)) (eLen (eVar "_law_names" 1 ⟨90,66,90,76⟩ (by kernel_rfl)) ⟨90,62,90,65⟩ ⟨90,62,90,77⟩ (by kernel_rfl)) ⟨90,44,90,77⟩) ⟨90,33,90,78⟩ (by kernel_rfl)) (rCons (eIdxV false "_law_stack" 2 ⟨90,80,90,90⟩ (eNeg (eInt 1 0 ⟨90,92,90,93⟩) ⟨90,91,90,93⟩) ⟨90,80,90,94⟩ (by kernel_rfl)) (rCons (eVar "_law_other" 8 ⟨90,96,90,106⟩ (by kernel_rfl)) rNil)))) 0 ⟨90,25,90,107⟩ rfl) ⟨90,8,90,18⟩ ⟨90,8,90,22⟩ ⟨90,8,90,107⟩ (by kernel_rfl)) lNil))
noncomputable def b__law_tree_by (d : Nat) : SL G d fi__law_tree_by :=
(lCons (sAsg "_law_stack" 2 (eLst rNil ⟨65,17,65,19⟩ rfl) ⟨65,4,65,14⟩ ⟨65,4,65,19⟩ (by kernel_rfl)) (lCons (sFor "_law_cell" (iList (eVar "_law_cells" 0 ⟨66,21,66,31⟩ (by kernel_rfl))) (l__law_tree_by_66 d) ⟨66,8,66,17⟩ ⟨66,4,87,90⟩) (lCons (sWhil (c__law_tree_by_88 d) (l__law_tree_by_88 d) ⟨88,4,90,107⟩) (lCons (sIte false (eVar "_law_stack" 2 ⟨91,7,91,17⟩ (by kernel_rfl))
(lCons (sRet (eIdxV false "_law_stack" 2 ⟨92,15,92,25⟩ (eInt 0 0 ⟨92,26,92,27⟩) ⟨92,15,92,28⟩ (by kernel_rfl)) ⟨92,8,92,28⟩) lNil)
lNil ⟨91,4,92,28⟩) (lCons (sRet (eTup (rCons (eStr "name" z_name 0 ⟨93,12,93,18⟩ z_name_e z_name_k) (rCons (eIdxV false "_law_names" 1 ⟨93,20,93,30⟩ (eInt 0 0 ⟨93,31,93,32⟩) ⟨93,20,93,33⟩ (by kernel_rfl)) rNil)) 0 ⟨93,11,93,34⟩ rfl) ⟨93,4,93,34⟩) lNil)))))
theorem b__law_tree_by_x (d : Nat) : (b__law_tree_by d).xs = fd__law_tree_by.st := by kernel_rfl
noncomputable def s__law_within_98_15 : Scope := ⟨.function, [(".0", .local), ("_law_part", .local)], false, false, []⟩
noncomputable def e__law_within_98_15 (d : Nat) : T G d (fi__law_within.inner s__law_within_98_15 "_law_part" 1) := (eVar "_law_part" 1 ⟨98,16,98,25⟩ (by kernel_rfl))
noncomputable def s__law_within_99_11 : Scope := ⟨.function, [(".0", .local), ("_law_part", .local)], false, false, []⟩
noncomputable def e__law_within_99_11 (d : Nat) : T G d (fi__law_within.inner s__law_within_99_11 "_law_part" 1) := (eVar "_law_part" 1 ⟨99,12,99,21⟩ (by kernel_rfl))
noncomputable def b__law_within (d : Nat) : SL G d fi__law_within :=
(lCons (sIte false (eIn (eIdxV false "_law_node" 0 ⟨95,7,95,16⟩ (eInt 0 0 ⟨95,17,95,18⟩) ⟨95,7,95,19⟩ (by kernel_rfl)) (eTup (rCons (eStr "num" z_num 0 ⟨95,24,95,29⟩ z_num_e z_num_k) (rCons (eStr "name" z_name 0 ⟨95,31,95,37⟩ z_name_e z_name_k) rNil)) 0 ⟨95,23,95,38⟩ rfl) ⟨95,7,95,38⟩)
(lCons (sRet (eLst rNil ⟨96,15,96,17⟩ rfl) ⟨96,8,96,17⟩) lNil)
lNil ⟨95,4,96,17⟩) (lCons (sIte false (eIn (eIdxV false "_law_node" 0 ⟨97,7,97,16⟩ (eInt 0 0 ⟨97,17,97,18⟩) ⟨97,7,97,19⟩ (by kernel_rfl)) (eTup (rCons (eStr "fun" z_fun 0 ⟨97,24,97,29⟩ z_fun_e z_fun_k) (rCons (eStr "let" z_let 0 ⟨97,31,97,36⟩ z_let_e z_let_k) rNil)) 0 ⟨97,23,97,37⟩ rfl) ⟨97,7,97,37⟩)
(lCons (sRet (eComp "_law_part" 1 ⟨98,30,98,39⟩ (iTup (eSlc (eVar "_law_node" 0 ⟨98,43,98,52⟩ (by kernel_rfl)) (dSome (eInt 2 0 ⟨98,53,98,54⟩)) dNone ⟨98,53,98,55⟩ ⟨98,43,98,56⟩)) s__law_within_98_15 (e__law_within_98_15 d) ⟨98,15,98,57⟩ (by kernel_rfl)) ⟨98,8,98,57⟩) lNil)
lNil ⟨97,4,98,57⟩) (lCons (sRet (eComp "_law_part" 1 ⟨99,26,99,35⟩ (iTup (eSlc (eVar "_law_node" 0 ⟨99,39,99,48⟩ (by kernel_rfl)) (dSome (eInt 1 0 ⟨99,49,99,50⟩)) dNone ⟨99,49,99,51⟩ ⟨99,39,99,52⟩)) s__law_within_99_11 (e__law_within_99_11 d) ⟨99,11,99,53⟩ (by kernel_rfl)) ⟨99,4,99,53⟩) lNil)))
theorem b__law_within_x (d : Nat) : (b__law_within d).xs = fd__law_within.st := by kernel_rfl
noncomputable def c__law_where_110 (d : Nat) : T G d fi__law_where := (eVar "_law_some" 6 ⟨110,14,110,23⟩ (by kernel_rfl))
noncomputable def l__law_where_110 (d : Nat) : SL G d fi__law_where :=
(lCons (sAsg "_law_part" 7 (ePop "_law_some" 6 ⟨111,24,111,33⟩ ⟨111,24,111,37⟩ ⟨111,24,111,39⟩ (by kernel_rfl)) ⟨111,12,111,21⟩ ⟨111,12,111,39⟩ (by kernel_rfl)) (lCons (sAsg "_law_inner" 8 (eBop (bCons false (eIdxV false "_law_pair" 4 ⟨112,25,112,34⟩ (eInt 1 0 ⟨112,35,112,36⟩) ⟨112,25,112,37⟩ (by kernel_rfl)) (bLast .Or (eBop (bCons false (eEq (eIdxV false "_law_node" 5 ⟨112,42,112,51⟩ (eInt 0 0 ⟨112,52,112,53⟩) ⟨112,42,112,54⟩ (by kernel_rfl)) (eStr "fun" z_fun 0 ⟨112,58,112,63⟩ z_fun_e z_fun_k) ⟨112,42,112,63⟩) (bLast .And (eEq (eIdxV false "_law_node" 5 ⟨112,68,112,77⟩ (eInt 1 0 ⟨112,78,112,79⟩) ⟨112,68,112,80⟩ (by kernel_rfl)) (eVar "_law_name" 1 ⟨112,84,112,93⟩ (by kernel_rfl)) ⟨112,68,112,93⟩))) ⟨112,42,112,93⟩))) ⟨112,25,112,94⟩) ⟨112,12,112,22⟩ ⟨112,12,112,94⟩ (by kernel_rfl)) (lCons (sAsg "_law_inner" 8 (eBop (bCons true (eVar "_law_inner" 8 ⟨113,25,113,35⟩ (by kernel_rfl)) (bLast .Or (eBop (bCons false (eEq (eIdxV false "_law_node" 5 ⟨113,40,113,49⟩ (eInt 0 0 ⟨113,50,113,51⟩) ⟨113,40,113,52⟩ (by kernel_rfl)) (eStr "let" z_let 0 ⟨113,56,113,61⟩ z_let_e z_let_k) ⟨113,40,113,61⟩) (bCons true (eEq (eIdxV false "_law_node" 5 ⟨113,66,113,75⟩ (eInt 1 0 ⟨113,76,113,77⟩) ⟨113,66,113,78⟩ (by kernel_rfl)) (eVar "_law_name" 1 ⟨113,82,113,91⟩ (by kernel_rfl)) ⟨113,66,113,91⟩) (bLast .And (eEq (eLen (eVar "_law_some" 6 ⟨113,101,113,110⟩ (by kernel_rfl)) ⟨113,97,113,100⟩ ⟨113,97,113,111⟩ (by kernel_rfl)) (eInt 1 0 ⟨113,115,113,116⟩) ⟨113,97,113,116⟩)))) ⟨113,40,113,117⟩))) ⟨113,25,113,118⟩) ⟨113,12,113,22⟩ ⟨113,12,113,118⟩ (by kernel_rfl)) (lCons (sApp "_law_todo" 2 (eTup (rCons (eVar "_law_part" 7 ⟨114,30,114,39⟩ (by kernel_rfl)) (rCons (eVar "_law_inner" 8 ⟨114,41,114,51⟩ (by kernel_rfl)) rNil)) 0 ⟨114,29,114,52⟩ rfl) ⟨114,12,114,21⟩ ⟨114,12,114,28⟩ ⟨114,12,114,53⟩ ⟨114,12,114,53⟩ (by kernel_rfl)) lNil))))
noncomputable def c__law_where_103 (d : Nat) : T G d fi__law_where := (eVar "_law_todo" 2 ⟨103,10,103,19⟩ (by kernel_rfl))
noncomputable def l__law_where_103 (d : Nat) : SL G d fi__law_where :=
(lCons (sAsg "_law_pair" 4 (ePop "_law_todo" 2 ⟨104,20,104,29⟩ ⟨104,20,104,33⟩ ⟨104,20,104,35⟩ (by kernel_rfl)) ⟨104,8,104,17⟩ ⟨104,8,104,35⟩ (by kernel_rfl)) (lCons (sAsg "_law_node" 5 (eIdxV false "_law_pair" 4 ⟨105,20,105,29⟩ (eInt 0 0 ⟨105,30,105,31⟩) ⟨105,20,105,32⟩ (by kernel_rfl)) ⟨105,8,105,17⟩ ⟨105,8,105,32⟩ (by kernel_rfl)) (lCons (sIte false (eBop (bCons false (eEq (eIdxV false "_law_node" 5 ⟨106,11,106,20⟩ (eInt 0 0 ⟨106,21,106,22⟩) ⟨106,11,106,23⟩ (by kernel_rfl)) (eStr "name" z_name 0 ⟨106,27,106,33⟩ z_name_e z_name_k) ⟨106,11,106,33⟩) (bCons true (eEq (eIdxV false "_law_node" 5 ⟨106,38,106,47⟩ (eInt 1 0 ⟨106,48,106,49⟩) ⟨106,38,106,50⟩ (by kernel_rfl)) (eVar "_law_name" 1 ⟨106,54,106,63⟩ (by kernel_rfl)) ⟨106,38,106,63⟩) (bLast .And (eNot (eIdxV false "_law_pair" 4 ⟨106,73,106,82⟩ (eInt 1 0 ⟨106,83,106,84⟩) ⟨106,73,106,85⟩ (by kernel_rfl)) ⟨106,69,106,85⟩)))) ⟨106,11,106,86⟩)
(lCons (sRetV "_law_at" 3 ⟨107,19,107,26⟩ ⟨107,12,107,26⟩ (by kernel_rfl)) lNil)
lNil ⟨106,8,107,26⟩) (lCons (sAsg "_law_at" 3 (eAdd (eVar "_law_at" 3 ⟨108,18,108,25⟩ (by kernel_rfl)) (eInt 1 0 ⟨108,28,108,29⟩) ⟨108,18,108,29⟩) ⟨108,8,108,15⟩ ⟨108,8,108,29⟩ (by kernel_rfl)) (lCons (sAsg "_law_some" 6 (eCall "_law_within" 73 (rCons (eVar "_law_node" 5 ⟨109,32,109,41⟩ (by kernel_rfl)) rNil) ⟨109,20,109,31⟩ ⟨109,20,109,42⟩ (by kernel_rfl)) ⟨109,8,109,17⟩ ⟨109,8,109,42⟩ (by kernel_rfl)) (lCons (sWhil (c__law_where_110 d) (l__law_where_110 d) ⟨110,8,114,53⟩) lNil))))))
noncomputable def b__law_where (d : Nat) : SL G d fi__law_where :=
(lCons (sAsg "_law_todo" 2 (eLst (rCons (eTup (rCons (eVar "_law_tree" 0 ⟨101,18,101,27⟩ (by kernel_rfl)) (rCons (eBool false 0 ⟨101,29,101,34⟩) rNil)) 0 ⟨101,17,101,35⟩ rfl) rNil) ⟨101,16,101,36⟩ rfl) ⟨101,4,101,13⟩ ⟨101,4,101,36⟩ (by kernel_rfl)) (lCons (sAsg "_law_at" 3 (eInt 0 0 ⟨102,14,102,15⟩) ⟨102,4,102,11⟩ ⟨102,4,102,15⟩ (by kernel_rfl)) (lCons (sWhil (c__law_where_103 d) (l__law_where_103 d) ⟨103,4,114,53⟩) (lCons (sRet (eNeg (eInt 1 0 ⟨115,12,115,13⟩) ⟨115,11,115,13⟩) ⟨115,4,115,13⟩) lNil))))
theorem b__law_where_x (d : Nat) : (b__law_where d).xs = fd__law_where.st := by kernel_rfl
noncomputable def l__law_parts_right_126 (d : Nat) : SL G d fi__law_parts_right :=
(lCons (sIte false (eBop (bCons false (eIs (eIdxV false "_law_found" 5 ⟨127,15,127,25⟩ (eVar "_law_k" 6 ⟨127,26,127,32⟩ (by kernel_rfl)) ⟨127,15,127,33⟩ (by kernel_rfl)) (eNone 0 ⟨127,37,127,41⟩) ⟨127,15,127,41⟩) (bCons false (eNot (eIsi (eIdxV false "_law_found" 5 ⟨127,60,127,70⟩ (eVar "_law_k" 6 ⟨127,71,127,77⟩ (by kernel_rfl)) ⟨127,60,127,78⟩ (by kernel_rfl)) .tuple ⟨127,49,127,59⟩ ⟨127,80,127,85⟩ ⟨127,49,127,86⟩ (by kernel_rfl)) ⟨127,45,127,86⟩) (bLast .Or (eNeS (eIdxV false "_law_found" 5 ⟨127,90,127,100⟩ (eVar "_law_k" 6 ⟨127,101,127,107⟩ (by kernel_rfl)) ⟨127,90,127,108⟩ (by kernel_rfl)) (eIdxV false "_law_due" 4 ⟨127,112,127,120⟩ (eVar "_law_k" 6 ⟨127,121,127,127⟩ (by kernel_rfl)) ⟨127,112,127,128⟩ (by kernel_rfl)) ⟨127,90,127,128⟩)))) ⟨127,15,127,128⟩)
(lCons (sRet (eNeg (eInt 1 0 ⟨128,24,128,25⟩) ⟨128,23,128,25⟩) ⟨128,16,128,25⟩) lNil)
lNil ⟨127,12,128,25⟩) lNil)
noncomputable def c__law_parts_right_119 (d : Nat) : T G d fi__law_parts_right := (eVar "_law_todo" 1 ⟨119,10,119,19⟩ (by kernel_rfl))
noncomputable def l__law_parts_right_119 (d : Nat) : SL G d fi__law_parts_right :=
(lCons (sAsg "_law_node" 3 (ePop "_law_todo" 1 ⟨120,20,120,29⟩ ⟨120,20,120,33⟩ ⟨120,20,120,35⟩ (by kernel_rfl)) ⟨120,8,120,17⟩ ⟨120,8,120,35⟩ (by kernel_rfl)) (lCons (sAsg "_law_count" 2 (eAdd (eVar "_law_count" 2 ⟨121,21,121,31⟩ (by kernel_rfl)) (eInt 1 0 ⟨121,34,121,35⟩) ⟨121,21,121,35⟩) ⟨121,8,121,18⟩ ⟨121,8,121,35⟩ (by kernel_rfl)) (lCons (sAsg "_law_due" 4 (eCall "_law_within" 73 (rCons (eVar "_law_node" 3 ⟨122,31,122,40⟩ (by kernel_rfl)) rNil) ⟨122,19,122,30⟩ ⟨122,19,122,41⟩ (by kernel_rfl)) ⟨122,8,122,16⟩ ⟨122,8,122,41⟩ (by kernel_rfl)) (lCons (sAsg "_law_found" 5 (eCall "parts" 21 (rCons (eVar "_law_node" 3 ⟨123,27,123,36⟩ (by kernel_rfl)) rNil) ⟨123,21,123,26⟩ ⟨123,21,123,37⟩ (by kernel_rfl)) ⟨123,8,123,18⟩ ⟨123,8,123,37⟩ (by kernel_rfl)) (lCons (sIte false (eBop (bCons false (eNot (eIsi (eVar "_law_found" 5 ⟨124,26,124,36⟩ (by kernel_rfl)) .list ⟨124,15,124,25⟩ ⟨124,38,124,42⟩ ⟨124,15,124,43⟩ (by kernel_rfl)) ⟨124,11,124,43⟩) (bLast .Or (eNe (eLen (eVar "_law_found" 5 ⟨124,51,124,61⟩ (by kernel_rfl)) ⟨124,47,124,50⟩ ⟨124,47,124,62⟩ (by kernel_rfl)) (eLen (eVar "_law_due" 4 ⟨124,70,124,78⟩ (by kernel_rfl)) ⟨124,66,124,69⟩ ⟨124,66,124,79⟩ (by kernel_rfl)) ⟨124,47,124,79⟩))) ⟨124,11,124,79⟩)
(lCons (sRet (eNeg (eInt 1 0 ⟨125,20,125,21⟩) ⟨125,19,125,21⟩) ⟨125,12,125,21⟩) lNil)
lNil ⟨124,8,125,21⟩) (lCons (sFor "_law_k" (iRange (rCons (eLen (eVar "_law_due" 4 ⟨126,32,126,40⟩ (by kernel_rfl)) ⟨126,28,126,31⟩ ⟨126,28,126,41⟩ (by kernel_rfl)) rNil) ⟨126,22,126,27⟩ ⟨126,22,126,42⟩ (by kernel_rfl)) (l__law_parts_right_126 d) ⟨126,12,126,18⟩ ⟨126,8,128,25⟩) (lCons (sExt "_law_todo" 1 (eVar "_law_due" 4 ⟨129,25,129,33⟩ (by kernel_rfl)) ⟨129,8,129,17⟩ ⟨129,8,129,24⟩ ⟨129,8,129,34⟩ ⟨129,8,129,34⟩ (by kernel_rfl)) lNil)))))))
noncomputable def b__law_parts_right (d : Nat) : SL G d fi__law_parts_right :=
(lCons (sAsg "_law_todo" 1 (eLst (rCons (eVar "_law_tree" 0 ⟨117,17,117,26⟩ (by kernel_rfl)) rNil) ⟨117,16,117,27⟩ rfl) ⟨117,4,117,13⟩ ⟨117,4,117,27⟩ (by kernel_rfl)) (lCons (sAsg "_law_count" 2 (eInt 0 0 ⟨118,17,118,18⟩) ⟨118,4,118,14⟩ ⟨118,4,118,18⟩ (by kernel_rfl)) (lCons (sWhil (c__law_parts_right_119 d) (l__law_parts_right_119 d) ⟨119,4,129,34⟩) (lCons (sRetV "_law_count" 2 ⟨130,11,130,21⟩ ⟨130,4,130,21⟩ (by kernel_rfl)) lNil))))
theorem b__law_parts_right_x (d : Nat) : (b__law_parts_right d).xs = fd__law_parts_right.st := by kernel_rfl
noncomputable def s_law_134_17 : Scope := ⟨.function, [(".0", .local), ("_law_k", .local), ("_law_name_by", .globalImplicit), ("_law_first", .free)], false, false, []⟩
noncomputable def e_law_134_17 (d : Nat) : T G d (fi_law.inner s_law_134_17 "_law_k" 11) := (eCall "_law_name_by" 54 (rCons (eAdd (eSub (eVar "_law_first" 1 ⟨134,31,134,41⟩ (by kernel_rfl)) (eMod (eVar "_law_first" 1 ⟨134,44,134,54⟩ (by kernel_rfl)) (eInt 26 0 ⟨134,57,134,59⟩) ⟨134,44,134,59⟩) ⟨134,31,134,59⟩) (eMod (eAdd (eVar "_law_first" 1 ⟨134,63,134,73⟩ (by kernel_rfl)) (eMul (eInt 7 0 ⟨134,76,134,77⟩) (eVar "_law_k" 11 ⟨134,80,134,86⟩ (by kernel_rfl)) ⟨134,76,134,86⟩) ⟨134,63,134,86⟩) (eInt 26 0 ⟨134,90,134,92⟩) ⟨134,62,134,92⟩) ⟨134,31,134,92⟩) rNil) ⟨134,18,134,30⟩ ⟨134,18,134,93⟩ (by kernel_rfl))
noncomputable def s_law_141_23 : Scope := ⟨.function, [(".0", .local), ("_law_name", .local), ("_law_where", .globalImplicit), ("_law_tree", .free)], false, false, []⟩
noncomputable def e_law_141_23 (d : Nat) : T G d (fi_law.inner s_law_141_23 "_law_name" 11) := (eTup (rCons (eCall "_law_where" 80 (rCons (eVar "_law_tree" 5 ⟨141,36,141,45⟩ (by kernel_rfl)) (rCons (eVar "_law_name" 11 ⟨141,47,141,56⟩ (by kernel_rfl)) rNil)) ⟨141,25,141,35⟩ ⟨141,25,141,57⟩ (by kernel_rfl)) (rCons (eVar "_law_name" 11 ⟨141,59,141,68⟩ (by kernel_rfl)) rNil)) 0 ⟨141,24,141,69⟩ rfl)
noncomputable def s_law_142_15 : Scope := ⟨.function, [(".0", .local), ("_law_row", .local)], false, false, []⟩
noncomputable def e_law_142_15 (d : Nat) : T G d (fi_law.inner s_law_142_15 "_law_row" 11) := (eIdxV false "_law_row" 11 ⟨142,16,142,24⟩ (eInt 1 0 ⟨142,25,142,26⟩) ⟨142,16,142,27⟩ (by kernel_rfl))
noncomputable def t_law_142_15 (d : Nat) : T G d (fi_law.inner s_law_142_15 "_law_row" 11) := (eGe (eIdxV false "_law_row" 11 ⟨142,57,142,65⟩ (eInt 0 0 ⟨142,66,142,67⟩) ⟨142,57,142,68⟩ (by kernel_rfl)) (eInt 0 0 ⟨142,72,142,73⟩) ⟨142,57,142,73⟩)
noncomputable def l_law_139 (d : Nat) : SL G d fi_law :=
(lCons (sAsg "_law_tree" 5 (eTup (rCons (eStr "less" z_less 0 ⟨140,25,140,31⟩ z_less_e z_less_k) (rCons (eTup (rCons (eStr "num" z_num 0 ⟨140,34,140,39⟩ z_num_e z_num_k) (rCons (eVar "_law_k" 3 ⟨140,41,140,47⟩ (by kernel_rfl)) rNil)) 0 ⟨140,33,140,48⟩ rfl) (rCons (eVar "_law_tree" 5 ⟨140,50,140,59⟩ (by kernel_rfl)) rNil))) 0 ⟨140,24,140,60⟩ rfl) ⟨140,12,140,21⟩ ⟨140,12,140,60⟩ (by kernel_rfl)) lNil)
noncomputable def l_law_146 (d : Nat) : SL G d fi_law :=
(lCons (sIte false (eBop (bCons false (eNot (eIsi (eIdxV true "_law_found" 8 ⟨147,26,147,36⟩ (eVar "_law_k" 3 ⟨147,37,147,43⟩ (by kernel_rfl)) ⟨147,26,147,44⟩ (by kernel_rfl)) .str ⟨147,15,147,25⟩ ⟨147,46,147,49⟩ ⟨147,15,147,50⟩ (by kernel_rfl)) ⟨147,11,147,50⟩) (bLast .Or (eNeS (eIdxV true "_law_found" 8 ⟨147,54,147,64⟩ (eVar "_law_k" 3 ⟨147,65,147,71⟩ (by kernel_rfl)) ⟨147,54,147,72⟩ (by kernel_rfl)) (eIdxV true "_law_due" 7 ⟨147,76,147,84⟩ (eVar "_law_k" 3 ⟨147,85,147,91⟩ (by kernel_rfl)) ⟨147,76,147,92⟩ (by kernel_rfl)) ⟨147,54,147,92⟩))) ⟨147,11,147,92⟩)
(lCons (sRet (eBool false 0 ⟨148,19,148,24⟩) ⟨148,12,148,24⟩) lNil)
lNil ⟨147,8,148,24⟩) lNil)
noncomputable def b_law (d : Nat) : SL G d fi_law :=
(lCons (sAsg "_law_first" 1 (eCall "_law_cell_at" 42 (rCons (eVar "_law_script" 0 ⟨132,30,132,41⟩ (by kernel_rfl)) (rCons (eInt 0 0 ⟨132,43,132,44⟩) rNil)) ⟨132,17,132,29⟩ ⟨132,17,132,45⟩ (by kernel_rfl)) ⟨132,4,132,14⟩ ⟨132,4,132,45⟩ (by kernel_rfl)) (lCons (sAsg "_law_many" 2 (eIdx true (eLst (rCons (eInt 4 0 ⟨133,17,133,18⟩) (rCons (eInt 12 0 ⟨133,20,133,22⟩) rNil)) ⟨133,16,133,23⟩ rfl) (eMod (eDiv (eVar "_law_first" 1 ⟨133,24,133,34⟩ (by kernel_rfl)) (eInt 1000 0 ⟨133,38,133,42⟩) ⟨133,24,133,42⟩) (eInt 2 0 ⟨133,45,133,46⟩) ⟨133,24,133,46⟩) ⟨133,16,133,47⟩) ⟨133,4,133,13⟩ ⟨133,4,133,47⟩ (by kernel_rfl)) (lCons (sAsgC "_law_names" 4 ⟨134,4,134,14⟩ ⟨134,4,134,125⟩ "_law_k" 11 ⟨134,98,134,104⟩ (iRange (rCons (eVar "_law_many" 2 ⟨134,114,134,123⟩ (by kernel_rfl)) rNil) ⟨134,108,134,113⟩ ⟨134,108,134,124⟩ (by kernel_rfl)) s_law_134_17 (e_law_134_17 d) ⟨134,17,134,125⟩ (by kernel_rfl)) (lCons (sIte true (eEq (eMod (eDiv (eVar "_law_first" 1 ⟨135,7,135,17⟩ (by kernel_rfl)) (eInt 26 0 ⟨135,21,135,23⟩) ⟨135,7,135,23⟩) (eInt 3 0 ⟨135,26,135,27⟩) ⟨135,7,135,27⟩) (eInt 1 0 ⟨135,31,135,32⟩) ⟨135,7,135,32⟩)
(lCons (sAsg "_law_names" 4 (eCall "_law_kin_by" 47 (rCons (eDiv (eVar "_law_first" 1 ⟨136,33,136,43⟩ (by kernel_rfl)) (eInt 78 0 ⟨136,47,136,49⟩) ⟨136,33,136,49⟩) (rCons (eLen (eVar "_law_names" 4 ⟨136,55,136,65⟩ (by kernel_rfl)) ⟨136,51,136,54⟩ ⟨136,51,136,66⟩ (by kernel_rfl)) rNil)) ⟨136,21,136,32⟩ ⟨136,21,136,67⟩ (by kernel_rfl)) ⟨136,8,136,18⟩ ⟨136,8,136,67⟩ (by kernel_rfl)) lNil)
lNil ⟨135,4,136,67⟩) (lCons (sAsg "_law_tree" 5 (eCall "_law_tree_by" 68 (rCons (eSlc (eVar "_law_script" 0 ⟨137,29,137,40⟩ (by kernel_rfl)) (dSome (eInt 1 0 ⟨137,41,137,42⟩)) (dSome (eInt 61 0 ⟨137,43,137,45⟩)) ⟨137,41,137,45⟩ ⟨137,29,137,46⟩) (rCons (eVar "_law_names" 4 ⟨137,48,137,58⟩ (by kernel_rfl)) rNil)) ⟨137,16,137,28⟩ ⟨137,16,137,59⟩ (by kernel_rfl)) ⟨137,4,137,13⟩ ⟨137,4,137,59⟩ (by kernel_rfl)) (lCons (sIte true (eEq (eMod (eDiv (eVar "_law_first" 1 ⟨138,7,138,17⟩ (by kernel_rfl)) (eInt 2000 0 ⟨138,21,138,25⟩) ⟨138,7,138,25⟩) (eInt 8 0 ⟨138,28,138,29⟩) ⟨138,7,138,29⟩) (eInt 1 0 ⟨138,33,138,34⟩) ⟨138,7,138,34⟩)
(lCons (sFor "_law_k" (iRange (rCons (eInt 250 0 ⟨139,28,139,31⟩) rNil) ⟨139,22,139,27⟩ ⟨139,22,139,32⟩ (by kernel_rfl)) (l_law_139 d) ⟨139,12,139,18⟩ ⟨139,8,140,60⟩) lNil)
lNil ⟨138,4,140,60⟩) (lCons (sAsg "_law_rows" 6 (eSort (eComp "_law_name" 11 ⟨141,74,141,83⟩ (iList (eVar "_law_names" 4 ⟨141,87,141,97⟩ (by kernel_rfl))) s_law_141_23 (e_law_141_23 d) ⟨141,23,141,98⟩ (by kernel_rfl)) ⟨141,16,141,22⟩ ⟨141,16,141,99⟩ (by kernel_rfl)) ⟨141,4,141,13⟩ ⟨141,4,141,99⟩ (by kernel_rfl)) (lCons (sAsgI "_law_due" 7 ⟨142,4,142,12⟩ ⟨142,4,142,74⟩ "_law_row" 11 ⟨142,32,142,40⟩ (iList (eVar "_law_rows" 6 ⟨142,44,142,53⟩ (by kernel_rfl))) s_law_142_15 [(t_law_142_15 d).x] (e_law_142_15 d) ⟨142,15,142,74⟩ (by kernel_rfl)) (lCons (sAsg "_law_found" 8 (eCall "free" 35 (rCons (eVar "_law_tree" 5 ⟨143,22,143,31⟩ (by kernel_rfl)) rNil) ⟨143,17,143,21⟩ ⟨143,17,143,32⟩ (by kernel_rfl)) ⟨143,4,143,14⟩ ⟨143,4,143,32⟩ (by kernel_rfl)) (lCons (sIte false (eBop (bCons false (eNot (eIsi (eVar "_law_found" 8 ⟨144,22,144,32⟩ (by kernel_rfl)) .list ⟨144,11,144,21⟩ ⟨144,34,144,38⟩ ⟨144,11,144,39⟩ (by kernel_rfl)) ⟨144,7,144,39⟩) (bLast .Or (eNeS (eLen (eVar "_law_found" 8 ⟨144,47,144,57⟩ (by kernel_rfl)) ⟨144,43,144,46⟩ ⟨144,43,144,58⟩ (by kernel_rfl)) (eLen (eVar "_law_due" 7 ⟨144,66,144,74⟩ (by kernel_rfl)) ⟨144,62,144,65⟩ ⟨144,62,144,75⟩ (by kernel_rfl)) ⟨144,43,144,75⟩))) ⟨144,7,144,75⟩)
(lCons (sRet (eBool false 0 ⟨145,15,145,20⟩) ⟨145,8,145,20⟩) lNil)
lNil ⟨144,4,145,20⟩) (lCons (sFor "_law_k" (iRange (rCons (eLen (eVar "_law_due" 7 ⟨146,28,146,36⟩ (by kernel_rfl)) ⟨146,24,146,27⟩ ⟨146,24,146,37⟩ (by kernel_rfl)) rNil) ⟨146,18,146,23⟩ ⟨146,18,146,38⟩ (by kernel_rfl)) (l_law_146 d) ⟨146,8,146,14⟩ ⟨146,4,148,24⟩) (lCons (sAsg "_law_size" 9 (eCall "nodes" 28 (rCons (eVar "_law_tree" 5 ⟨149,22,149,31⟩ (by kernel_rfl)) rNil) ⟨149,16,149,21⟩ ⟨149,16,149,32⟩ (by kernel_rfl)) ⟨149,4,149,13⟩ ⟨149,4,149,32⟩ (by kernel_rfl)) (lCons (sAsg "_law_count" 10 (eCall "_law_parts_right" 87 (rCons (eVar "_law_tree" 5 ⟨150,34,150,43⟩ (by kernel_rfl)) rNil) ⟨150,17,150,33⟩ ⟨150,17,150,44⟩ (by kernel_rfl)) ⟨150,4,150,14⟩ ⟨150,4,150,44⟩ (by kernel_rfl)) (lCons (sRet (eBop (bCons false (eIsi (eVar "_law_size" 9 ⟨151,22,151,31⟩ (by kernel_rfl)) .int ⟨151,11,151,21⟩ ⟨151,33,151,36⟩ ⟨151,11,151,37⟩ (by kernel_rfl)) (bCons false (eNot (eIsi (eVar "_law_size" 9 ⟨151,58,151,67⟩ (by kernel_rfl)) .bool ⟨151,47,151,57⟩ ⟨151,69,151,73⟩ ⟨151,47,151,74⟩ (by kernel_rfl)) ⟨151,43,151,74⟩) (bLast .And (eEqS (eVar "_law_size" 9 ⟨151,81,151,90⟩ (by kernel_rfl)) (eVar "_law_count" 10 ⟨151,94,151,104⟩ (by kernel_rfl)) ⟨151,81,151,104⟩)))) ⟨151,11,151,105⟩) ⟨151,4,151,105⟩) lNil))))))))))))))
theorem b_law_x (d : Nat) : (b_law d).xs = fd_law.st := by kernel_rfl
end Mine.L01
end

section
open PySem
set_option autoImplicit false
namespace Mine
open Mine.L01
set_option genSizeOf false in
set_option genInjectivity false in
inductive Tree where
  | num (i : Int)
  | name (x : List Nat)
  | fn (x : List Nat) (b : Tree)
  | call (f a : Tree)
  | plus (a b : Tree)
  | less (a b : Tree)
  | ite (c a b : Tree)
  | lt (x : List Nat) (e b : Tree)
noncomputable def tv (t : Tree) : V := Tree.rec (fun i => .tup [.str z_num, .int i]) (fun x => .tup [.str z_name, .str x]) (fun x _ b => .tup [.str z_fun, .str x, b]) (fun _ _ f a => .tup [.str z_call, f, a]) (fun _ _ a b => .tup [.str z_plus, a, b]) (fun _ _ a b => .tup [.str z_less, a, b])
  (fun _ _ _ c a b => .tup [.str z_if, c, a, b]) (fun x _ _ e b => .tup [.str z_let, .str x, e, b]) t
end Mine
end

section
open PySem
set_option autoImplicit false
set_option maxRecDepth 100000
namespace Mine
open Mine.L01
noncomputable def kv (t : Mine.Tree) : List V := Tree.casesOn t (fun _ => []) (fun _ => []) (fun _ b => [tv b]) (fun a b => [tv b, tv a]) (fun a b => [tv b, tv a]) (fun a b => [tv b, tv a]) (fun c a b => [tv b, tv a, tv c]) (fun _ e b => [tv b, tv e])
noncomputable def sz (t : Mine.Tree) : Nat := Tree.rec (fun _ => 1) (fun _ => 1) (fun _ _ b => b + 1) (fun _ _ a b => a + b + 1) (fun _ _ a b => a + b + 1) (fun _ _ a b => a + b + 1) (fun _ _ _ a b c => a + b + c + 1) (fun _ _ _ a b => a + b + 1) t
theorem sz_pos (t : Mine.Tree) : 1 ≤ sz t := by cases t <;> exact Nat.succ_le_succ (Nat.zero_le _)
theorem ok_parts (d : Nat) (t : Mine.Tree) : CallOK G (d + 1) 21 [tv t] (.own (kv t)) := by
  cases t with
  | num i => exact call_go (n := 0) (tp := []) (b_parts d) rfl (b_parts_x d) rfl (by kernel_rfl) (P := True) (by kernel_rfl) (by decide)
  | name x => exact call_go (n := 0) (tp := []) (b_parts d) rfl (b_parts_x d) rfl (by kernel_rfl) (P := True) (by kernel_rfl) (by decide)
  | fn x b => exact call_go (n := 0) (tp := []) (b_parts d) rfl (b_parts_x d) rfl (by kernel_rfl) (P := ((0 : Int) ≤ 2 ∧ (2 : Int) ≤ 1000000) ∧ True) (by kernel_rfl) (by decide)
  | call a b => exact call_go (n := 0) (tp := []) (b_parts d) rfl (b_parts_x d) rfl (by kernel_rfl) (P := ((0 : Int) ≤ 1 ∧ (1 : Int) ≤ 1000000) ∧ True) (by kernel_rfl) (by decide)
  | plus a b => exact call_go (n := 0) (tp := []) (b_parts d) rfl (b_parts_x d) rfl (by kernel_rfl) (P := ((0 : Int) ≤ 1 ∧ (1 : Int) ≤ 1000000) ∧ True) (by kernel_rfl) (by decide)
  | less a b => exact call_go (n := 0) (tp := []) (b_parts d) rfl (b_parts_x d) rfl (by kernel_rfl) (P := ((0 : Int) ≤ 1 ∧ (1 : Int) ≤ 1000000) ∧ True) (by kernel_rfl) (by decide)
  | ite c a b => exact call_go (n := 0) (tp := []) (b_parts d) rfl (b_parts_x d) rfl (by kernel_rfl) (P := ((0 : Int) ≤ 1 ∧ (1 : Int) ≤ 1000000) ∧ True) (by kernel_rfl) (by decide)
  | lt x e b => exact call_go (n := 0) (tp := []) (b_parts d) rfl (b_parts_x d) rfl (by kernel_rfl) (P := ((0 : Int) ≤ 2 ∧ (2 : Int) ≤ 1000000) ∧ True) (by kernel_rfl) (by decide)
theorem ok_within (d : Nat) (t : Mine.Tree) : CallOK G (d + 1) 73 [tv t] (.own (kv t)) := by
  cases t with
  | num i => exact call_go (n := 1) (tp := []) (b__law_within d) rfl (b__law_within_x d) rfl (by kernel_rfl) (P := True) (by kernel_rfl) trivial
  | name x => exact call_go (n := 1) (tp := []) (b__law_within d) rfl (b__law_within_x d) rfl (by kernel_rfl) (P := True) (by kernel_rfl) trivial
  | fn x b =>
    have h : CompL G d (fi__law_within.inner s__law_within_98_15 "_law_part" 1) (e__law_within_98_15 d).x 1 [some (.val (tv (.fn x b))), none] [tv b] [tv b] := (comp_go (o := .val (tv b)) (tp := []) (by kernel_rfl) (P := True) (by kernel_rfl) trivial comp_nil)
    exact call_go (n := 1) (tp := [.vs [tv b]]) (b__law_within d) rfl (b__law_within_x d) rfl (by kernel_rfl) (P := (CompL G d (fi__law_within.inner s__law_within_98_15 "_law_part" 1) (e__law_within_98_15 d).x 1 [some (.val (tv (.fn x b))), none] [tv b] [tv b] ∧ 1 ≤ 1000000) ∧ ((0 : Int) ≤ 2 ∧ (2 : Int) ≤ 1000000) ∧ True) (by kernel_rfl) ⟨⟨h, by decide⟩, by decide, trivial⟩
  | call a b =>
    have h : CompL G d (fi__law_within.inner s__law_within_99_11 "_law_part" 1) (e__law_within_99_11 d).x 1 [some (.val (tv (.call a b))), none] [tv a, tv b] [tv a, tv b] := (comp_go (o := .val (tv a)) (tp := []) (by kernel_rfl) (P := True) (by kernel_rfl) trivial (comp_go (o := .val (tv b)) (tp := []) (by kernel_rfl) (P := True) (by kernel_rfl) trivial comp_nil))
    exact call_go (n := 1) (tp := [.vs [tv a, tv b]]) (b__law_within d) rfl (b__law_within_x d) rfl (by kernel_rfl) (P := (CompL G d (fi__law_within.inner s__law_within_99_11 "_law_part" 1) (e__law_within_99_11 d).x 1 [some (.val (tv (.call a b))), none] [tv a, tv b] [tv a, tv b] ∧ 2 ≤ 1000000) ∧ ((0 : Int) ≤ 1 ∧ (1 : Int) ≤ 1000000) ∧ True) (by kernel_rfl) ⟨⟨h, by decide⟩, by decide, trivial⟩
  | plus a b =>
    have h : CompL G d (fi__law_within.inner s__law_within_99_11 "_law_part" 1) (e__law_within_99_11 d).x 1 [some (.val (tv (.plus a b))), none] [tv a, tv b] [tv a, tv b] := (comp_go (o := .val (tv a)) (tp := []) (by kernel_rfl) (P := True) (by kernel_rfl) trivial (comp_go (o := .val (tv b)) (tp := []) (by kernel_rfl) (P := True) (by kernel_rfl) trivial comp_nil))
    exact call_go (n := 1) (tp := [.vs [tv a, tv b]]) (b__law_within d) rfl (b__law_within_x d) rfl (by kernel_rfl) (P := (CompL G d (fi__law_within.inner s__law_within_99_11 "_law_part" 1) (e__law_within_99_11 d).x 1 [some (.val (tv (.plus a b))), none] [tv a, tv b] [tv a, tv b] ∧ 2 ≤ 1000000) ∧ ((0 : Int) ≤ 1 ∧ (1 : Int) ≤ 1000000) ∧ True) (by kernel_rfl) ⟨⟨h, by decide⟩, by decide, trivial⟩
  | less a b =>
    have h : CompL G d (fi__law_within.inner s__law_within_99_11 "_law_part" 1) (e__law_within_99_11 d).x 1 [some (.val (tv (.less a b))), none] [tv a, tv b] [tv a, tv b] := (comp_go (o := .val (tv a)) (tp := []) (by kernel_rfl) (P := True) (by kernel_rfl) trivial (comp_go (o := .val (tv b)) (tp := []) (by kernel_rfl) (P := True) (by kernel_rfl) trivial comp_nil))
    exact call_go (n := 1) (tp := [.vs [tv a, tv b]]) (b__law_within d) rfl (b__law_within_x d) rfl (by kernel_rfl) (P := (CompL G d (fi__law_within.inner s__law_within_99_11 "_law_part" 1) (e__law_within_99_11 d).x 1 [some (.val (tv (.less a b))), none] [tv a, tv b] [tv a, tv b] ∧ 2 ≤ 1000000) ∧ ((0 : Int) ≤ 1 ∧ (1 : Int) ≤ 1000000) ∧ True) (by kernel_rfl) ⟨⟨h, by decide⟩, by decide, trivial⟩
  | ite c a b =>
    have h : CompL G d (fi__law_within.inner s__law_within_99_11 "_law_part" 1) (e__law_within_99_11 d).x 1 [some (.val (tv (.ite c a b))), none] [tv c, tv a, tv b] [tv c, tv a, tv b] := (comp_go (o := .val (tv c)) (tp := []) (by kernel_rfl) (P := True) (by kernel_rfl) trivial (comp_go (o := .val (tv a)) (tp := []) (by kernel_rfl) (P := True) (by kernel_rfl) trivial (comp_go (o := .val (tv b)) (tp := []) (by kernel_rfl) (P := True) (by kernel_rfl) trivial comp_nil)))
    exact call_go (n := 1) (tp := [.vs [tv c, tv a, tv b]]) (b__law_within d) rfl (b__law_within_x d) rfl (by kernel_rfl) (P := (CompL G d (fi__law_within.inner s__law_within_99_11 "_law_part" 1) (e__law_within_99_11 d).x 1 [some (.val (tv (.ite c a b))), none] [tv c, tv a, tv b] [tv c, tv a, tv b] ∧ 3 ≤ 1000000) ∧ ((0 : Int) ≤ 1 ∧ (1 : Int) ≤ 1000000) ∧ True) (by kernel_rfl) ⟨⟨h, by decide⟩, by decide, trivial⟩
  | lt x e b =>
    have h : CompL G d (fi__law_within.inner s__law_within_98_15 "_law_part" 1) (e__law_within_98_15 d).x 1 [some (.val (tv (.lt x e b))), none] [tv e, tv b] [tv e, tv b] := (comp_go (o := .val (tv e)) (tp := []) (by kernel_rfl) (P := True) (by kernel_rfl) trivial (comp_go (o := .val (tv b)) (tp := []) (by kernel_rfl) (P := True) (by kernel_rfl) trivial comp_nil))
    exact call_go (n := 1) (tp := [.vs [tv e, tv b]]) (b__law_within d) rfl (b__law_within_x d) rfl (by kernel_rfl) (P := (CompL G d (fi__law_within.inner s__law_within_98_15 "_law_part" 1) (e__law_within_98_15 d).x 1 [some (.val (tv (.lt x e b))), none] [tv e, tv b] [tv e, tv b] ∧ 2 ≤ 1000000) ∧ ((0 : Int) ≤ 2 ∧ (2 : Int) ≤ 1000000) ∧ True) (by kernel_rfl) ⟨⟨h, by decide⟩, by decide, trivial⟩
section
variable {d : Nat} {T : V} {Φ : Fl → Loc → Prop}
noncomputable abbrev nst (T : V) (K : List V) (m : Int) : Loc := [some (.val T), some (.own K), some (.val (.int m))]
abbrev NW (d : Nat) (ρ : Loc) (Φ : Fl → Loc → Prop) : Prop := WhP (c_nodes_11 d) (l_nodes_11 d) ρ Φ
theorem nd_num {i : Int} {K : List V} {m : Int} (hK : K.length + 4 < room) (k : NW (d + 1) (nst T (K) (m + 1)) Φ) : NW (d + 1) (nst T (tv (.num i) :: K) m) Φ :=
  whp_go false (tp := [.r (.own [])]) (ρ' := nst T (K) (m + 1)) (by kernel_rfl) (P := (0 + K.length < room) ∧ CallOK G (d + 1) 21 [tv (.num i)] (.own []) ∧ True) (by kernel_rfl) ⟨by omega, ok_parts d (.num i), trivial⟩ k
theorem nd_name {x : List Nat} {K : List V} {m : Int} (hK : K.length + 4 < room) (k : NW (d + 1) (nst T (K) (m + 1)) Φ) : NW (d + 1) (nst T (tv (.name x) :: K) m) Φ :=
  whp_go false (tp := [.r (.own [])]) (ρ' := nst T (K) (m + 1)) (by kernel_rfl) (P := (0 + K.length < room) ∧ CallOK G (d + 1) 21 [tv (.name x)] (.own []) ∧ True) (by kernel_rfl) ⟨by omega, ok_parts d (.name x), trivial⟩ k
theorem nd_fn {x : List Nat} {b : Mine.Tree} {K : List V} {m : Int} (hK : K.length + 4 < room) (k : NW (d + 1) (nst T (tv b :: K) (m + 1)) Φ) : NW (d + 1) (nst T (tv (.fn x b) :: K) m) Φ :=
  whp_go false (tp := [.r (.own [tv b])]) (ρ' := nst T (tv b :: K) (m + 1)) (by kernel_rfl) (P := (1 + K.length < room) ∧ CallOK G (d + 1) 21 [tv (.fn x b)] (.own [tv b]) ∧ True) (by kernel_rfl) ⟨by omega, ok_parts d (.fn x b), trivial⟩ k
theorem nd_call {a b : Mine.Tree} {K : List V} {m : Int} (hK : K.length + 4 < room) (k : NW (d + 1) (nst T (tv b :: tv a :: K) (m + 1)) Φ) : NW (d + 1) (nst T (tv (.call a b) :: K) m) Φ :=
  whp_go false (tp := [.r (.own [tv b, tv a])]) (ρ' := nst T (tv b :: tv a :: K) (m + 1)) (by kernel_rfl) (P := (2 + K.length < room) ∧ CallOK G (d + 1) 21 [tv (.call a b)] (.own [tv b, tv a]) ∧ True) (by kernel_rfl) ⟨by omega, ok_parts d (.call a b), trivial⟩ k
theorem nd_plus {a b : Mine.Tree} {K : List V} {m : Int} (hK : K.length + 4 < room) (k : NW (d + 1) (nst T (tv b :: tv a :: K) (m + 1)) Φ) : NW (d + 1) (nst T (tv (.plus a b) :: K) m) Φ :=
  whp_go false (tp := [.r (.own [tv b, tv a])]) (ρ' := nst T (tv b :: tv a :: K) (m + 1)) (by kernel_rfl) (P := (2 + K.length < room) ∧ CallOK G (d + 1) 21 [tv (.plus a b)] (.own [tv b, tv a]) ∧ True) (by kernel_rfl) ⟨by omega, ok_parts d (.plus a b), trivial⟩ k
theorem nd_less {a b : Mine.Tree} {K : List V} {m : Int} (hK : K.length + 4 < room) (k : NW (d + 1) (nst T (tv b :: tv a :: K) (m + 1)) Φ) : NW (d + 1) (nst T (tv (.less a b) :: K) m) Φ :=
  whp_go false (tp := [.r (.own [tv b, tv a])]) (ρ' := nst T (tv b :: tv a :: K) (m + 1)) (by kernel_rfl) (P := (2 + K.length < room) ∧ CallOK G (d + 1) 21 [tv (.less a b)] (.own [tv b, tv a]) ∧ True) (by kernel_rfl) ⟨by omega, ok_parts d (.less a b), trivial⟩ k
theorem nd_ite {c a b : Mine.Tree} {K : List V} {m : Int} (hK : K.length + 4 < room) (k : NW (d + 1) (nst T (tv b :: tv a :: tv c :: K) (m + 1)) Φ) : NW (d + 1) (nst T (tv (.ite c a b) :: K) m) Φ :=
  whp_go false (tp := [.r (.own [tv b, tv a, tv c])]) (ρ' := nst T (tv b :: tv a :: tv c :: K) (m + 1)) (by kernel_rfl) (P := (3 + K.length < room) ∧ CallOK G (d + 1) 21 [tv (.ite c a b)] (.own [tv b, tv a, tv c]) ∧ True) (by kernel_rfl) ⟨by omega, ok_parts d (.ite c a b), trivial⟩ k
theorem nd_lt {x : List Nat} {e b : Mine.Tree} {K : List V} {m : Int} (hK : K.length + 4 < room) (k : NW (d + 1) (nst T (tv b :: tv e :: K) (m + 1)) Φ) : NW (d + 1) (nst T (tv (.lt x e b) :: K) m) Φ :=
  whp_go false (tp := [.r (.own [tv b, tv e])]) (ρ' := nst T (tv b :: tv e :: K) (m + 1)) (by kernel_rfl) (P := (2 + K.length < room) ∧ CallOK G (d + 1) 21 [tv (.lt x e b)] (.own [tv b, tv e]) ∧ True) (by kernel_rfl) ⟨by omega, ok_parts d (.lt x e b), trivial⟩ k
theorem nd_all (t : Mine.Tree) : ∀ {K : List V} {m : Int}, K.length + 4 * sz t < room → (∀ m' : Int, m' = m + sz t → NW (d + 1) (nst T K m') Φ) → NW (d + 1) (nst T (tv t :: K) m) Φ := by
  induction t with
  | num i  =>
    intro K m hK k
    have hs : sz (.num i) = 1 := rfl
    rw [hs] at hK k
    exact nd_num (by omega) (k _ (by omega))
  | name x  =>
    intro K m hK k
    have hs : sz (.name x) = 1 := rfl
    rw [hs] at hK k
    exact nd_name (by omega) (k _ (by omega))
  | fn x b ib =>
    intro K m hK k
    have hs : sz (.fn x b) = sz b + 1 := rfl
    rw [hs] at hK k
    have hb := sz_pos b
    exact nd_fn (by omega) (ib (by (try simp only [List.length_cons]); omega) fun nb eb => k _ (by omega))
  | call a b ia ib =>
    intro K m hK k
    have hs : sz (.call a b) = sz a + sz b + 1 := rfl
    rw [hs] at hK k
    have ha := sz_pos a
    have hb := sz_pos b
    exact nd_call (by omega) (ib (by (try simp only [List.length_cons]); omega) fun nb eb => ia (by (try simp only [List.length_cons]); omega) fun na ea => k _ (by omega))
  | plus a b ia ib =>
    intro K m hK k
    have hs : sz (.plus a b) = sz a + sz b + 1 := rfl
    rw [hs] at hK k
    have ha := sz_pos a
    have hb := sz_pos b
    exact nd_plus (by omega) (ib (by (try simp only [List.length_cons]); omega) fun nb eb => ia (by (try simp only [List.length_cons]); omega) fun na ea => k _ (by omega))
  | less a b ia ib =>
    intro K m hK k
    have hs : sz (.less a b) = sz a + sz b + 1 := rfl
    rw [hs] at hK k
    have ha := sz_pos a
    have hb := sz_pos b
    exact nd_less (by omega) (ib (by (try simp only [List.length_cons]); omega) fun nb eb => ia (by (try simp only [List.length_cons]); omega) fun na ea => k _ (by omega))
  | ite c a b ic ia ib =>
    intro K m hK k
    have hs : sz (.ite c a b) = sz c + sz a + sz b + 1 := rfl
    rw [hs] at hK k
    have hc := sz_pos c
    have ha := sz_pos a
    have hb := sz_pos b
    exact nd_ite (by omega) (ib (by (try simp only [List.length_cons]); omega) fun nb eb => ia (by (try simp only [List.length_cons]); omega) fun na ea => ic (by (try simp only [List.length_cons]); omega) fun nc ec => k _ (by omega))
  | lt x e b ie ib =>
    intro K m hK k
    have hs : sz (.lt x e b) = sz e + sz b + 1 := rfl
    rw [hs] at hK k
    have he := sz_pos e
    have hb := sz_pos b
    exact nd_lt (by omega) (ib (by (try simp only [List.length_cons]); omega) fun nb eb => ie (by (try simp only [List.length_cons]); omega) fun ne ee => k _ (by omega))
theorem ok_nodes (t : Mine.Tree) (hz : 4 * sz t < room) : CallOK G (d + 2) 28 [tv t] (.val (.int (sz t))) := by
  obtain ⟨fl, ρ, hw, rfl, rfl⟩ := nd_all (d := d) (T := tv t) (Φ := fun fl ρ => fl = .next ∧ ρ = nst (tv t) [] (sz t)) t (K := []) (m := 0) (by simpa using hz) fun m' e => whp_end false (tp := []) (ρ' := nst (tv t) [] m') (by kernel_rfl) (P := True) (by kernel_rfl) trivial ⟨rfl, by rw [e, Int.zero_add]⟩
  exact call_go (n := 2) (tp := [.l .next (nst (tv t) [] (sz t))]) (b_nodes (d + 1)) rfl (b_nodes_x (d + 1)) rfl (by kernel_rfl) (P := WhilOK G (d + 1) fi_nodes (c_nodes_11 (d + 1)).x (l_nodes_11 (d + 1)).xs (nst (tv t) [tv t] 0) .next (nst (tv t) [] (sz t)) ∧ True) (by kernel_rfl) ⟨hw, trivial⟩
end
def addN (bd F : List (List Nat)) (x : List Nat) : List (List Nat) := if x ∈ bd ∨ x ∈ F then F else x :: F
noncomputable def fr (t : Mine.Tree) : List (List Nat) → List (List Nat) → List (List Nat) := Tree.rec (motive := fun _ => List (List Nat) → List (List Nat) → List (List Nat)) (fun _ _ F => F) (fun x bd F => addN bd F x) (fun x _ fb bd F => fb (bd ++ [x]) F)
  (fun _ _ fa fb bd F => fb bd (fa bd F)) (fun _ _ fa fb bd F => fb bd (fa bd F)) (fun _ _ fa fb bd F => fb bd (fa bd F)) (fun _ _ _ fc fa fb bd F => fb bd (fa bd (fc bd F))) (fun x _ _ fe fb bd F => fb (bd ++ [x]) (fe bd F)) t
theorem texts_map : ∀ F : List (List Nat), textsOf (F.map .str) = some F
  | [] => rfl
  | x :: F => by
    show (textsOf (F.map .str)).bind _ = _
    rw [texts_map F]; rfl
theorem not_in {F : List (List Nat)} {x : List Nat} {y : O} (hy : textsIn y = some F) {t : Bool} (h : t = decide (x ∉ F)) : InP true (.str x) y t := by
  show (textsIn y).bind _ = _
  rw [hy, h]
  show some (!F.any (· == x), ([] : List Prop)) = _
  congr 2
  by_cases q : x ∈ F
  · rw [decide_eq_false (fun h => h q), List.any_eq_true.mpr ⟨x, q, by simp⟩]; rfl
  · rw [decide_eq_true q]
    cases e : F.any (· == x) with
    | false => rfl
    | true => obtain ⟨z, hz, hz2⟩ := List.any_eq_true.mp e; rw [beq_iff_eq.mp hz2] at hz; exact absurd hz q
section
variable {d : Nat} {T : V} {Φ : Fl → Loc → Prop} {x3 x4 x5 : Option O}
noncomputable abbrev fst' (T : V) (F : List (List Nat)) (K : List V) (x3 x4 x5 : Option O) : Loc := [some (.val T), some (.own (F.map .str)), some (.own K), x3, x4, x5]
noncomputable abbrev fe (t : V) (bd : List (List Nat)) : V := .tup [t, .tup (bd.map .str)]
abbrev FW (d : Nat) (ρ : Loc) (Φ : Fl → Loc → Prop) : Prop := WhP (c_free_18 d) (l_free_18 d) ρ Φ
theorem fr_num {i : Int} {K : List V} {F bd : List (List Nat)} (k : ∀ x3 x4 x5, FW (d + 1) (fst' T F K x3 x4 x5) Φ) : FW (d + 1) (fst' T F (fe (tv (.num i)) bd :: K) x3 x4 x5) Φ :=
  whp_go false (tp := [.r (.own []), .l .next (fst' T F K (some (.val (tv (.num i)))) (some (.val (.tup (bd.map .str)))) x5)]) (ρ' := fst' T F K (some (.val (tv (.num i)))) (some (.val (.tup (bd.map .str)))) x5) (by kernel_rfl) (P := ForOK G (d + 1) fi_free (.Name "part" ⟨29,16,29,20⟩) (l_free_29 (d + 1)).xs [] (fst' T F K (some (.val (tv (.num i)))) (some (.val (.tup (bd.map .str)))) x5) .next (fst' T F K (some (.val (tv (.num i)))) (some (.val (.tup (bd.map .str)))) x5) ∧ CallOK G (d + 1) 21 [tv (.num i)] (.own []) ∧ True) (by kernel_rfl) ⟨for_nil, ok_parts d (.num i), trivial⟩ (k _ _ _)
theorem fr_name1 {x : List Nat} {K : List V} {F bd : List (List Nat)} (h : x ∈ bd) (k : ∀ x3 x4 x5, FW (d + 1) (fst' T F K x3 x4 x5) Φ) : FW (d + 1) (fst' T F (fe (tv (.name x)) bd :: K) x3 x4 x5) Φ :=
  whp_go false (tp := [.b false]) (ρ' := (fst' T F K (some (.val (tv (.name x)))) (some (.val (.tup (bd.map .str)))) x5)) (by kernel_rfl) (P := InP true (.str x) (.val (.tup (bd.map .str))) false ∧ True) (by kernel_rfl) ⟨not_in (F := bd) (y := .val (.tup (bd.map .str))) (texts_map bd) (by simp [h]), trivial⟩ (k _ _ _)
theorem fr_name2 {x : List Nat} {K : List V} {F bd : List (List Nat)} (h : x ∉ bd) (h2 : x ∈ F) (k : ∀ x3 x4 x5, FW (d + 1) (fst' T F K x3 x4 x5) Φ) : FW (d + 1) (fst' T F (fe (tv (.name x)) bd :: K) x3 x4 x5) Φ :=
  whp_go false (tp := [.b true, .b false]) (ρ' := (fst' T F K (some (.val (tv (.name x)))) (some (.val (.tup (bd.map .str)))) x5)) (by kernel_rfl) (P := InP true (.str x) (.own (F.map .str)) false ∧ InP true (.str x) (.val (.tup (bd.map .str))) true ∧ True) (by kernel_rfl) ⟨not_in (F := F) (y := .own (F.map .str)) (texts_map F) (by simp [h2]), not_in (F := bd) (y := .val (.tup (bd.map .str))) (texts_map bd) (by simp [h]), trivial⟩ (k _ _ _)
theorem fr_name3 {x : List Nat} {K : List V} {F bd : List (List Nat)} (h : x ∉ bd) (h2 : x ∉ F) (hF : F.length < room) (k : ∀ x3 x4 x5, FW (d + 1) (fst' T (x :: F) K x3 x4 x5) Φ) : FW (d + 1) (fst' T F (fe (tv (.name x)) bd :: K) x3 x4 x5) Φ :=
  whp_go false (tp := [.b true, .b true]) (ρ' := (fst' T (x :: F) K (some (.val (tv (.name x)))) (some (.val (.tup (bd.map .str)))) x5)) (by kernel_rfl) (P := ((F.map V.str).length < room) ∧ InP true (.str x) (.own (F.map .str)) true ∧ InP true (.str x) (.val (.tup (bd.map .str))) true ∧ True) (by kernel_rfl) ⟨by rw [List.length_map]; exact hF, not_in (F := F) (y := .own (F.map .str)) (texts_map F) (by simp [h2]), not_in (F := bd) (y := .val (.tup (bd.map .str))) (texts_map bd) (by simp [h]), trivial⟩ (k _ _ _)
theorem app_map (bd : List (List Nat)) (x : List Nat) : bd.map V.str ++ [V.str x] = (bd ++ [x]).map V.str := by simp
theorem fr_fn {x : List Nat} {b : Mine.Tree} {K : List V} {F bd : List (List Nat)} (hK : K.length < room) (hb : bd.length + 1 < room) (k : ∀ x3 x4 x5, FW (d + 1) (fst' T F (fe (tv b) (bd ++ [x]) :: K) x3 x4 x5) Φ) : FW (d + 1) (fst' T F (fe (tv (.fn x b)) bd :: K) x3 x4 x5) Φ :=
  whp_go false (tp := []) (ρ' := fst' T F (.tup [tv b, .tup (bd.map V.str ++ [V.str x])] :: K) (some (.val (tv (.fn x b)))) (some (.val (.tup (bd.map .str)))) x5) (by kernel_rfl) (P := (K.length < room) ∧ ((bd.map V.str ++ [V.str x]).length ≤ room) ∧ True) (by kernel_rfl) ⟨hK, by simp; omega, trivial⟩ (by rw [app_map]; exact k _ _ _)
theorem fr_lt {x : List Nat} {e b : Mine.Tree} {K : List V} {F bd : List (List Nat)} (hK : K.length + 2 < room) (hb : bd.length + 1 < room) (k : ∀ x3 x4 x5, FW (d + 1) (fst' T F (fe (tv e) bd :: fe (tv b) (bd ++ [x]) :: K) x3 x4 x5) Φ) : FW (d + 1) (fst' T F (fe (tv (.lt x e b)) bd :: K) x3 x4 x5) Φ :=
  whp_go false (tp := []) (ρ' := fst' T F (fe (tv e) bd :: .tup [tv b, .tup (bd.map V.str ++ [V.str x])] :: K) (some (.val (tv (.lt x e b)))) (some (.val (.tup (bd.map .str)))) x5) (by kernel_rfl) (P := ((.tup [tv b, .tup (bd.map V.str ++ [V.str x])] :: K : List V).length < room) ∧ (K.length < room) ∧ ((bd.map V.str ++ [V.str x]).length ≤ room) ∧ True) (by kernel_rfl) ⟨by rw [List.length_cons]; omega, by omega, by simp; omega, trivial⟩ (by rw [app_map]; exact k _ _ _)
theorem fr_call {a b : Mine.Tree} {K : List V} {F bd : List (List Nat)} (hK : K.length + 4 < room) (k : ∀ x3 x4 x5, FW (d + 1) (fst' T F (fe (tv a) bd :: (fe (tv b) bd :: K)) x3 x4 x5) Φ) : FW (d + 1) (fst' T F (fe (tv (.call a b)) bd :: K) x3 x4 x5) Φ :=
  have hf : ForOK G (d + 1) fi_free (.Name "part" ⟨29,16,29,20⟩) (l_free_29 (d + 1)).xs [tv b, tv a] (fst' T F K (some (.val (tv (.call a b)))) (some (.val (.tup (bd.map .str)))) x5) .next (fst' T F (fe (tv a) bd :: (fe (tv b) bd :: K)) (some (.val (tv (.call a b)))) (some (.val (.tup (bd.map .str)))) (some (.val (tv a)))) :=
    (for_go (i := 5) (v := tv b) (l := [tv a]) (ρ := (fst' T F K (some (.val (tv (.call a b)))) (some (.val (.tup (bd.map .str)))) x5)) (ρ' := (fst' T F (fe (tv b) bd :: K) (some (.val (tv (.call a b)))) (some (.val (.tup (bd.map .str)))) (some (.val (tv b))))) (tp := []) (by kernel_rfl) (by kernel_rfl) (P := ((K : List V).length < room) ∧ True) (by kernel_rfl) ⟨by (try simp only [List.length_cons]); omega, trivial⟩ (for_go (i := 5) (v := tv a) (l := []) (ρ := (fst' T F (fe (tv b) bd :: K) (some (.val (tv (.call a b)))) (some (.val (.tup (bd.map .str)))) (some (.val (tv b))))) (ρ' := (fst' T F (fe (tv a) bd :: (fe (tv b) bd :: K)) (some (.val (tv (.call a b)))) (some (.val (.tup (bd.map .str)))) (some (.val (tv a))))) (tp := []) (by kernel_rfl) (by kernel_rfl) (P := (((fe (tv b) bd :: K) : List V).length < room) ∧ True) (by kernel_rfl) ⟨by (try simp only [List.length_cons]); omega, trivial⟩ for_nil))
  whp_go false (tp := [.r (.own [tv b, tv a]), .l .next (fst' T F (fe (tv a) bd :: (fe (tv b) bd :: K)) (some (.val (tv (.call a b)))) (some (.val (.tup (bd.map .str)))) (some (.val (tv a))))]) (ρ' := (fst' T F (fe (tv a) bd :: (fe (tv b) bd :: K)) (some (.val (tv (.call a b)))) (some (.val (.tup (bd.map .str)))) (some (.val (tv a))))) (by kernel_rfl) (P := ForOK G (d + 1) fi_free (.Name "part" ⟨29,16,29,20⟩) (l_free_29 (d + 1)).xs [tv b, tv a] (fst' T F K (some (.val (tv (.call a b)))) (some (.val (.tup (bd.map .str)))) x5) .next (fst' T F (fe (tv a) bd :: (fe (tv b) bd :: K)) (some (.val (tv (.call a b)))) (some (.val (.tup (bd.map .str)))) (some (.val (tv a)))) ∧ CallOK G (d + 1) 21 [tv (.call a b)] (.own [tv b, tv a]) ∧ True) (by kernel_rfl) ⟨hf, ok_parts d (.call a b), trivial⟩ (k _ _ _)
theorem fr_plus {a b : Mine.Tree} {K : List V} {F bd : List (List Nat)} (hK : K.length + 4 < room) (k : ∀ x3 x4 x5, FW (d + 1) (fst' T F (fe (tv a) bd :: (fe (tv b) bd :: K)) x3 x4 x5) Φ) : FW (d + 1) (fst' T F (fe (tv (.plus a b)) bd :: K) x3 x4 x5) Φ :=
  have hf : ForOK G (d + 1) fi_free (.Name "part" ⟨29,16,29,20⟩) (l_free_29 (d + 1)).xs [tv b, tv a] (fst' T F K (some (.val (tv (.plus a b)))) (some (.val (.tup (bd.map .str)))) x5) .next (fst' T F (fe (tv a) bd :: (fe (tv b) bd :: K)) (some (.val (tv (.plus a b)))) (some (.val (.tup (bd.map .str)))) (some (.val (tv a)))) :=
    (for_go (i := 5) (v := tv b) (l := [tv a]) (ρ := (fst' T F K (some (.val (tv (.plus a b)))) (some (.val (.tup (bd.map .str)))) x5)) (ρ' := (fst' T F (fe (tv b) bd :: K) (some (.val (tv (.plus a b)))) (some (.val (.tup (bd.map .str)))) (some (.val (tv b))))) (tp := []) (by kernel_rfl) (by kernel_rfl) (P := ((K : List V).length < room) ∧ True) (by kernel_rfl) ⟨by (try simp only [List.length_cons]); omega, trivial⟩ (for_go (i := 5) (v := tv a) (l := []) (ρ := (fst' T F (fe (tv b) bd :: K) (some (.val (tv (.plus a b)))) (some (.val (.tup (bd.map .str)))) (some (.val (tv b))))) (ρ' := (fst' T F (fe (tv a) bd :: (fe (tv b) bd :: K)) (some (.val (tv (.plus a b)))) (some (.val (.tup (bd.map .str)))) (some (.val (tv a))))) (tp := []) (by kernel_rfl) (by kernel_rfl) (P := (((fe (tv b) bd :: K) : List V).length < room) ∧ True) (by kernel_rfl) ⟨by (try simp only [List.length_cons]); omega, trivial⟩ for_nil))
  whp_go false (tp := [.r (.own [tv b, tv a]), .l .next (fst' T F (fe (tv a) bd :: (fe (tv b) bd :: K)) (some (.val (tv (.plus a b)))) (some (.val (.tup (bd.map .str)))) (some (.val (tv a))))]) (ρ' := (fst' T F (fe (tv a) bd :: (fe (tv b) bd :: K)) (some (.val (tv (.plus a b)))) (some (.val (.tup (bd.map .str)))) (some (.val (tv a))))) (by kernel_rfl) (P := ForOK G (d + 1) fi_free (.Name "part" ⟨29,16,29,20⟩) (l_free_29 (d + 1)).xs [tv b, tv a] (fst' T F K (some (.val (tv (.plus a b)))) (some (.val (.tup (bd.map .str)))) x5) .next (fst' T F (fe (tv a) bd :: (fe (tv b) bd :: K)) (some (.val (tv (.plus a b)))) (some (.val (.tup (bd.map .str)))) (some (.val (tv a)))) ∧ CallOK G (d + 1) 21 [tv (.plus a b)] (.own [tv b, tv a]) ∧ True) (by kernel_rfl) ⟨hf, ok_parts d (.plus a b), trivial⟩ (k _ _ _)
theorem fr_less {a b : Mine.Tree} {K : List V} {F bd : List (List Nat)} (hK : K.length + 4 < room) (k : ∀ x3 x4 x5, FW (d + 1) (fst' T F (fe (tv a) bd :: (fe (tv b) bd :: K)) x3 x4 x5) Φ) : FW (d + 1) (fst' T F (fe (tv (.less a b)) bd :: K) x3 x4 x5) Φ :=
  have hf : ForOK G (d + 1) fi_free (.Name "part" ⟨29,16,29,20⟩) (l_free_29 (d + 1)).xs [tv b, tv a] (fst' T F K (some (.val (tv (.less a b)))) (some (.val (.tup (bd.map .str)))) x5) .next (fst' T F (fe (tv a) bd :: (fe (tv b) bd :: K)) (some (.val (tv (.less a b)))) (some (.val (.tup (bd.map .str)))) (some (.val (tv a)))) :=
    (for_go (i := 5) (v := tv b) (l := [tv a]) (ρ := (fst' T F K (some (.val (tv (.less a b)))) (some (.val (.tup (bd.map .str)))) x5)) (ρ' := (fst' T F (fe (tv b) bd :: K) (some (.val (tv (.less a b)))) (some (.val (.tup (bd.map .str)))) (some (.val (tv b))))) (tp := []) (by kernel_rfl) (by kernel_rfl) (P := ((K : List V).length < room) ∧ True) (by kernel_rfl) ⟨by (try simp only [List.length_cons]); omega, trivial⟩ (for_go (i := 5) (v := tv a) (l := []) (ρ := (fst' T F (fe (tv b) bd :: K) (some (.val (tv (.less a b)))) (some (.val (.tup (bd.map .str)))) (some (.val (tv b))))) (ρ' := (fst' T F (fe (tv a) bd :: (fe (tv b) bd :: K)) (some (.val (tv (.less a b)))) (some (.val (.tup (bd.map .str)))) (some (.val (tv a))))) (tp := []) (by kernel_rfl) (by kernel_rfl) (P := (((fe (tv b) bd :: K) : List V).length < room) ∧ True) (by kernel_rfl) ⟨by (try simp only [List.length_cons]); omega, trivial⟩ for_nil))
  whp_go false (tp := [.r (.own [tv b, tv a]), .l .next (fst' T F (fe (tv a) bd :: (fe (tv b) bd :: K)) (some (.val (tv (.less a b)))) (some (.val (.tup (bd.map .str)))) (some (.val (tv a))))]) (ρ' := (fst' T F (fe (tv a) bd :: (fe (tv b) bd :: K)) (some (.val (tv (.less a b)))) (some (.val (.tup (bd.map .str)))) (some (.val (tv a))))) (by kernel_rfl) (P := ForOK G (d + 1) fi_free (.Name "part" ⟨29,16,29,20⟩) (l_free_29 (d + 1)).xs [tv b, tv a] (fst' T F K (some (.val (tv (.less a b)))) (some (.val (.tup (bd.map .str)))) x5) .next (fst' T F (fe (tv a) bd :: (fe (tv b) bd :: K)) (some (.val (tv (.less a b)))) (some (.val (.tup (bd.map .str)))) (some (.val (tv a)))) ∧ CallOK G (d + 1) 21 [tv (.less a b)] (.own [tv b, tv a]) ∧ True) (by kernel_rfl) ⟨hf, ok_parts d (.less a b), trivial⟩ (k _ _ _)
theorem fr_ite {c a b : Mine.Tree} {K : List V} {F bd : List (List Nat)} (hK : K.length + 4 < room) (k : ∀ x3 x4 x5, FW (d + 1) (fst' T F (fe (tv c) bd :: (fe (tv a) bd :: (fe (tv b) bd :: K))) x3 x4 x5) Φ) : FW (d + 1) (fst' T F (fe (tv (.ite c a b)) bd :: K) x3 x4 x5) Φ :=
  have hf : ForOK G (d + 1) fi_free (.Name "part" ⟨29,16,29,20⟩) (l_free_29 (d + 1)).xs [tv b, tv a, tv c] (fst' T F K (some (.val (tv (.ite c a b)))) (some (.val (.tup (bd.map .str)))) x5) .next (fst' T F (fe (tv c) bd :: (fe (tv a) bd :: (fe (tv b) bd :: K))) (some (.val (tv (.ite c a b)))) (some (.val (.tup (bd.map .str)))) (some (.val (tv c)))) :=
    (for_go (i := 5) (v := tv b) (l := [tv a, tv c]) (ρ := (fst' T F K (some (.val (tv (.ite c a b)))) (some (.val (.tup (bd.map .str)))) x5)) (ρ' := (fst' T F (fe (tv b) bd :: K) (some (.val (tv (.ite c a b)))) (some (.val (.tup (bd.map .str)))) (some (.val (tv b))))) (tp := []) (by kernel_rfl) (by kernel_rfl) (P := ((K : List V).length < room) ∧ True) (by kernel_rfl) ⟨by (try simp only [List.length_cons]); omega, trivial⟩ (for_go (i := 5) (v := tv a) (l := [tv c]) (ρ := (fst' T F (fe (tv b) bd :: K) (some (.val (tv (.ite c a b)))) (some (.val (.tup (bd.map .str)))) (some (.val (tv b))))) (ρ' := (fst' T F (fe (tv a) bd :: (fe (tv b) bd :: K)) (some (.val (tv (.ite c a b)))) (some (.val (.tup (bd.map .str)))) (some (.val (tv a))))) (tp := []) (by kernel_rfl) (by kernel_rfl) (P := (((fe (tv b) bd :: K) : List V).length < room) ∧ True) (by kernel_rfl) ⟨by (try simp only [List.length_cons]); omega, trivial⟩ (for_go (i := 5) (v := tv c) (l := []) (ρ := (fst' T F (fe (tv a) bd :: (fe (tv b) bd :: K)) (some (.val (tv (.ite c a b)))) (some (.val (.tup (bd.map .str)))) (some (.val (tv a))))) (ρ' := (fst' T F (fe (tv c) bd :: (fe (tv a) bd :: (fe (tv b) bd :: K))) (some (.val (tv (.ite c a b)))) (some (.val (.tup (bd.map .str)))) (some (.val (tv c))))) (tp := []) (by kernel_rfl) (by kernel_rfl) (P := (((fe (tv a) bd :: (fe (tv b) bd :: K)) : List V).length < room) ∧ True) (by kernel_rfl) ⟨by (try simp only [List.length_cons]); omega, trivial⟩ for_nil)))
  whp_go false (tp := [.r (.own [tv b, tv a, tv c]), .l .next (fst' T F (fe (tv c) bd :: (fe (tv a) bd :: (fe (tv b) bd :: K))) (some (.val (tv (.ite c a b)))) (some (.val (.tup (bd.map .str)))) (some (.val (tv c))))]) (ρ' := (fst' T F (fe (tv c) bd :: (fe (tv a) bd :: (fe (tv b) bd :: K))) (some (.val (tv (.ite c a b)))) (some (.val (.tup (bd.map .str)))) (some (.val (tv c))))) (by kernel_rfl) (P := ForOK G (d + 1) fi_free (.Name "part" ⟨29,16,29,20⟩) (l_free_29 (d + 1)).xs [tv b, tv a, tv c] (fst' T F K (some (.val (tv (.ite c a b)))) (some (.val (.tup (bd.map .str)))) x5) .next (fst' T F (fe (tv c) bd :: (fe (tv a) bd :: (fe (tv b) bd :: K))) (some (.val (tv (.ite c a b)))) (some (.val (.tup (bd.map .str)))) (some (.val (tv c)))) ∧ CallOK G (d + 1) 21 [tv (.ite c a b)] (.own [tv b, tv a, tv c]) ∧ True) (by kernel_rfl) ⟨hf, ok_parts d (.ite c a b), trivial⟩ (k _ _ _)
theorem addN_len (bd F : List (List Nat)) (x : List Nat) : (addN bd F x).length ≤ F.length + 1 := by
  unfold addN; split
  · omega
  · rw [List.length_cons]; omega
theorem fr_len (t : Mine.Tree) : ∀ bd F, (fr t bd F).length ≤ F.length + sz t := by
  induction t with
  | num i => intro bd F; exact Nat.le_add_right _ _
  | name x => intro bd F; exact addN_len bd F x
  | fn x b ib => intro bd F; have := ib (bd ++ [x]) F; show (fr b (bd ++ [x]) F).length ≤ F.length + (sz b + 1); omega
  | call a b ia ib => intro bd F; have h1 := ia bd F; have h2 := ib bd (fr a bd F); show (fr b bd (fr a bd F)).length ≤ F.length + (sz a + sz b + 1); omega
  | plus a b ia ib => intro bd F; have h1 := ia bd F; have h2 := ib bd (fr a bd F); show (fr b bd (fr a bd F)).length ≤ F.length + (sz a + sz b + 1); omega
  | less a b ia ib => intro bd F; have h1 := ia bd F; have h2 := ib bd (fr a bd F); show (fr b bd (fr a bd F)).length ≤ F.length + (sz a + sz b + 1); omega
  | ite c a b ic ia ib => intro bd F; have h0 := ic bd F; have h1 := ia bd (fr c bd F); have h2 := ib bd (fr a bd (fr c bd F)); show (fr b bd (fr a bd (fr c bd F))).length ≤ F.length + (sz c + sz a + sz b + 1); omega
  | lt x e b ie ib => intro bd F; have h1 := ie bd F; have h2 := ib (bd ++ [x]) (fr e bd F); show (fr b (bd ++ [x]) (fr e bd F)).length ≤ F.length + (sz e + sz b + 1); omega
theorem fr_all (t : Mine.Tree) : ∀ {K : List V} {F bd : List (List Nat)} {x3 x4 x5 : Option O}, K.length + 4 * sz t < room → F.length + 4 * sz t < room → bd.length + 4 * sz t < room → (∀ x3 x4 x5, FW (d + 1) (fst' T (fr t bd F) K x3 x4 x5) Φ) → FW (d + 1) (fst' T F (fe (tv t) bd :: K) x3 x4 x5) Φ := by
  induction t with
  | num i => intro K F bd x3 x4 x5 hK hF hb k; exact fr_num k
  | name x =>
    intro K F bd x3 x4 x5 hK hF hb k
    have e : fr (.name x) bd F = addN bd F x := rfl
    rw [e] at k
    unfold addN at k
    by_cases h : x ∈ bd
    · rw [if_pos (.inl h)] at k; exact fr_name1 h k
    · by_cases h2 : x ∈ F
      · rw [if_pos (.inr h2)] at k; exact fr_name2 h h2 k
      · rw [if_neg (fun q => q.elim h h2)] at k; exact fr_name3 h h2 (by omega) k
  | fn x b ib =>
    intro K F bd x3 x4 x5 hK hF hb k
    have hs : sz (.fn x b) = sz b + 1 := rfl
    rw [hs] at hK hF hb
    exact fr_fn (by omega) (by omega) fun _ _ _ => ib (by omega) (by omega) (by rw [List.length_append, List.length_singleton]; omega) k
  | call a b ia ib =>
    intro K F bd x3 x4 x5 hK hF hb k
    have hs : sz (.call a b) = sz a + sz b + 1 := rfl
    rw [hs] at hK hF hb
    have := sz_pos a; have := sz_pos b; have := fr_len a bd F
    exact fr_call (by omega) fun _ _ _ => ia (by rw [List.length_cons]; omega) (by omega) (by omega) fun _ _ _ => ib (by omega) (by omega) (by omega) k
  | plus a b ia ib =>
    intro K F bd x3 x4 x5 hK hF hb k
    have hs : sz (.plus a b) = sz a + sz b + 1 := rfl
    rw [hs] at hK hF hb
    have := sz_pos a; have := sz_pos b; have := fr_len a bd F
    exact fr_plus (by omega) fun _ _ _ => ia (by rw [List.length_cons]; omega) (by omega) (by omega) fun _ _ _ => ib (by omega) (by omega) (by omega) k
  | less a b ia ib =>
    intro K F bd x3 x4 x5 hK hF hb k
    have hs : sz (.less a b) = sz a + sz b + 1 := rfl
    rw [hs] at hK hF hb
    have := sz_pos a; have := sz_pos b; have := fr_len a bd F
    exact fr_less (by omega) fun _ _ _ => ia (by rw [List.length_cons]; omega) (by omega) (by omega) fun _ _ _ => ib (by omega) (by omega) (by omega) k
  | ite c a b ic ia ib =>
    intro K F bd x3 x4 x5 hK hF hb k
    have hs : sz (.ite c a b) = sz c + sz a + sz b + 1 := rfl
    rw [hs] at hK hF hb
    have := sz_pos c; have := sz_pos a; have := sz_pos b; have := fr_len c bd F; have := fr_len a bd (fr c bd F)
    exact fr_ite (by omega) fun _ _ _ => ic (by simp only [List.length_cons]; omega) (by omega) (by omega) fun _ _ _ => ia (by rw [List.length_cons]; omega) (by omega) (by omega) fun _ _ _ => ib (by omega) (by omega) (by omega) k
  | lt x e b ie ib =>
    intro K F bd x3 x4 x5 hK hF hb k
    have hs : sz (.lt x e b) = sz e + sz b + 1 := rfl
    rw [hs] at hK hF hb
    have := sz_pos e; have := sz_pos b; have := fr_len e bd F
    exact fr_lt (by omega) (by omega) fun _ _ _ => ie (by rw [List.length_cons]; omega) (by omega) (by omega) fun _ _ _ => ib (by omega) (by omega) (by rw [List.length_append, List.length_singleton]; omega) k
theorem ok_free (t : Mine.Tree) (hz : 4 * sz t < room) : CallOK G (d + 2) 35 [tv t] (.own ((fr t [] []).map .str)) := by
  obtain ⟨fl, ρ, hw, rfl, x3, x4, x5, rfl⟩ := fr_all (d := d) (T := tv t) (Φ := fun fl ρ => fl = .next ∧ ∃ x3 x4 x5, ρ = fst' (tv t) (fr t [] []) [] x3 x4 x5) t (K := []) (F := []) (bd := []) (x3 := none) (x4 := none) (x5 := none) (by simpa using hz) (by simpa using hz) (by simpa using hz) fun x3 x4 x5 => whp_end false (tp := []) (ρ' := fst' (tv t) (fr t [] []) [] x3 x4 x5) (by kernel_rfl) (P := True) (by kernel_rfl) trivial ⟨rfl, _, _, _, rfl⟩
  exact call_go (n := 5) (tp := [.l .next (fst' (tv t) (fr t [] []) [] x3 x4 x5)]) (b_free (d + 1)) rfl (b_free_x (d + 1)) rfl (by kernel_rfl) (P := WhilOK G (d + 1) fi_free (c_free_18 (d + 1)).x (l_free_18 (d + 1)).xs (fst' (tv t) [] [fe (tv t) []] none none none) .next (fst' (tv t) (fr t [] []) [] x3 x4 x5) ∧ True) (by kernel_rfl) ⟨hw, trivial⟩
end
end Mine
end

section
open PySem
set_option autoImplicit false
set_option maxRecDepth 100000
namespace Mine
open Mine.L01
theorem whp_ret {G : Gl} {d : Nat} {fi : FI} {c : T G d fi} {b : SL G d fi} {ρ ρ' : Loc} {tp : List Tk} {P : Prop} {o : O} {Φ : Fl → Loc → Prop} (f : Bool) (e : out (turn c b f ⟨ρ, tp, []⟩) = some (some (.ret o), ρ', [])) (ob : All (obs (turn c b f ⟨ρ, tp, []⟩)) = P) (p : P) (h : Φ (.ret o) ρ') : WhP c b ρ Φ :=
  ⟨_, _, (turn_ok c b f).run e ob p (.ret o) ρ' ⟨rfl, rfl⟩, h⟩
theorem tv_tup (t : Mine.Tree) : ∃ l, tv t = .tup l := by cases t <;> exact ⟨_, rfl⟩
noncomputable def fwh (n : List Nat) (t : Mine.Tree) : Bool → Option Nat := Tree.rec (motive := fun _ => Bool → Option Nat) (fun _ _ => none) (fun x b => Bool.casesOn (x == n) none (Bool.casesOn b (some 0) none)) (fun x _ f b => (f (b || x == n)).map (· + 1))
  (fun a _ f g b => ((f b).map (· + 1)).or ((g b).map (· + (1 + sz a)))) (fun a _ f g b => ((f b).map (· + 1)).or ((g b).map (· + (1 + sz a)))) (fun a _ f g b => ((f b).map (· + 1)).or ((g b).map (· + (1 + sz a))))
  (fun c a _ f g h b => ((f b).map (· + 1)).or (((g b).map (· + (1 + sz c))).or ((h b).map (· + (1 + sz c + sz a))))) (fun x e _ f g b => ((f b).map (· + 1)).or ((g (b || x == n)).map (· + (1 + sz e)))) t
noncomputable abbrev wst (T : V) (n : List Nat) (K : List V) (m : Int) (x4 x5 x6 x7 x8 : Option O) : Loc := [some (.val T), some (.val (.str n)), some (.own K), some (.val (.int m)), x4, x5, x6, x7, x8]
abbrev WW (d : Nat) (ρ : Loc) (Φ : Fl → Loc → Prop) : Prop := WhP (c__law_where_103 d) (l__law_where_103 d) ρ Φ
section
variable {d : Nat} {T : V} {n : List Nat} {Φ : Fl → Loc → Prop} {x4 x5 x6 x7 x8 : Option O}
theorem wh_found {x : List Nat} {K : List V} {m : Int} (h : (x == n) = true) (k : ∀ ρ, Φ (.ret (.val (.int m))) ρ) : WW (d + 1) (wst T n (.tup [tv (.name x), .bool false] :: K) m x4 x5 x6 x7 x8) Φ :=
  whp_ret false (tp := [.b true]) (o := .val (.int m)) (ρ' := [some (.val T), some (.val (.str n)), some (.own K), none, some (.val (.tup [tv (.name x), .bool false])), some (.val (tv (.name x))), x6, x7, x8]) (by kernel_rfl) (P := (x == n) = true ∧ True) (by kernel_rfl) ⟨h, trivial⟩ (k _)
theorem wh_num_true {i : Int} {K : List V} {m : Int} (hK : K.length + 4 < room) (k : ∀ x4 x5 x6 x7 x8, WW (d + 1) (wst T n K (m + 1) x4 x5 x6 x7 x8) Φ) : WW (d + 1) (wst T n ((.tup [tv (.num i), .bool true]) :: K) m x4 x5 x6 x7 x8) Φ :=
  have hw : WhilOK G (d + 1) fi__law_where (c__law_where_110 (d + 1)).x (l__law_where_110 (d + 1)).xs (wst T n K (m + 1) (some (.val (.tup [tv (.num i), .bool true]))) (some (.val (tv (.num i)))) (some (.own [])) x7 x8) .next (wst T n K (m + 1) (some (.val (.tup [tv (.num i), .bool true]))) (some (.val (tv (.num i)))) (some (.own [])) x7 x8) :=
    (whil_end false (tp := []) (by kernel_rfl) (P := True) (by kernel_rfl) trivial)
  whp_go false (tp := [.r (.own []), .l .next (wst T n K (m + 1) (some (.val (.tup [tv (.num i), .bool true]))) (some (.val (tv (.num i)))) (some (.own [])) x7 x8)]) (ρ' := (wst T n K (m + 1) (some (.val (.tup [tv (.num i), .bool true]))) (some (.val (tv (.num i)))) (some (.own [])) x7 x8)) (by kernel_rfl) (P := WhilOK G (d + 1) fi__law_where (c__law_where_110 (d + 1)).x (l__law_where_110 (d + 1)).xs (wst T n K (m + 1) (some (.val (.tup [tv (.num i), .bool true]))) (some (.val (tv (.num i)))) (some (.own [])) x7 x8) .next (wst T n K (m + 1) (some (.val (.tup [tv (.num i), .bool true]))) (some (.val (tv (.num i)))) (some (.own [])) x7 x8) ∧ CallOK G (d + 1) 73 [tv (.num i)] (.own []) ∧ True) (by kernel_rfl) ⟨hw, ok_within d (.num i), trivial⟩ (k _ _ _ _ _)
theorem wh_name0_true {x : List Nat} {K : List V} {m : Int} (h : (x == n) = false) (hK : K.length + 4 < room) (k : ∀ x4 x5 x6 x7 x8, WW (d + 1) (wst T n K (m + 1) x4 x5 x6 x7 x8) Φ) : WW (d + 1) (wst T n ((.tup [tv (.name x), .bool true]) :: K) m x4 x5 x6 x7 x8) Φ :=
  have hw : WhilOK G (d + 1) fi__law_where (c__law_where_110 (d + 1)).x (l__law_where_110 (d + 1)).xs (wst T n K (m + 1) (some (.val (.tup [tv (.name x), .bool true]))) (some (.val (tv (.name x)))) (some (.own [])) x7 x8) .next (wst T n K (m + 1) (some (.val (.tup [tv (.name x), .bool true]))) (some (.val (tv (.name x)))) (some (.own [])) x7 x8) :=
    (whil_end false (tp := []) (by kernel_rfl) (P := True) (by kernel_rfl) trivial)
  whp_go false (tp := [.b false, .r (.own []), .l .next (wst T n K (m + 1) (some (.val (.tup [tv (.name x), .bool true]))) (some (.val (tv (.name x)))) (some (.own [])) x7 x8)]) (ρ' := (wst T n K (m + 1) (some (.val (.tup [tv (.name x), .bool true]))) (some (.val (tv (.name x)))) (some (.own [])) x7 x8)) (by kernel_rfl) (P := WhilOK G (d + 1) fi__law_where (c__law_where_110 (d + 1)).x (l__law_where_110 (d + 1)).xs (wst T n K (m + 1) (some (.val (.tup [tv (.name x), .bool true]))) (some (.val (tv (.name x)))) (some (.own [])) x7 x8) .next (wst T n K (m + 1) (some (.val (.tup [tv (.name x), .bool true]))) (some (.val (tv (.name x)))) (some (.own [])) x7 x8) ∧ CallOK G (d + 1) 73 [tv (.name x)] (.own []) ∧ (x == n) = false ∧ True) (by kernel_rfl) ⟨hw, ok_within d (.name x), h, trivial⟩ (k _ _ _ _ _)
theorem wh_call_true {a b : Mine.Tree} {K : List V} {m : Int} (hK : K.length + 4 < room) (k : ∀ x4 x5 x6 x7 x8, WW (d + 1) (wst T n (.tup [tv a, .bool true] :: (.tup [tv b, .bool true] :: K)) (m + 1) x4 x5 x6 x7 x8) Φ) : WW (d + 1) (wst T n ((.tup [tv (.call a b), .bool true]) :: K) m x4 x5 x6 x7 x8) Φ :=
  have hw : WhilOK G (d + 1) fi__law_where (c__law_where_110 (d + 1)).x (l__law_where_110 (d + 1)).xs (wst T n K (m + 1) (some (.val (.tup [tv (.call a b), .bool true]))) (some (.val (tv (.call a b)))) (some (.own [tv b, tv a])) x7 x8) .next (wst T n (.tup [tv a, .bool true] :: (.tup [tv b, .bool true] :: K)) (m + 1) (some (.val (.tup [tv (.call a b), .bool true]))) (some (.val (tv (.call a b)))) (some (.own [])) (some (.val (tv a))) (some (.val (.bool true)))) :=
    (whil_go false (ρ := (wst T n K (m + 1) (some (.val (.tup [tv (.call a b), .bool true]))) (some (.val (tv (.call a b)))) (some (.own [tv b, tv a])) x7 x8)) (ρ' := (wst T n (.tup [tv b, .bool true] :: K) (m + 1) (some (.val (.tup [tv (.call a b), .bool true]))) (some (.val (tv (.call a b)))) (some (.own [tv a])) (some (.val (tv b))) (some (.val (.bool true))))) (tp := [.b true]) (by kernel_rfl) (P := ((K : List V).length < room) ∧ true = true ∧ True) (by kernel_rfl) ⟨by (try simp only [List.length_cons]); omega, rfl, trivial⟩ (whil_go false (ρ := (wst T n (.tup [tv b, .bool true] :: K) (m + 1) (some (.val (.tup [tv (.call a b), .bool true]))) (some (.val (tv (.call a b)))) (some (.own [tv a])) (some (.val (tv b))) (some (.val (.bool true))))) (ρ' := (wst T n (.tup [tv a, .bool true] :: (.tup [tv b, .bool true] :: K)) (m + 1) (some (.val (.tup [tv (.call a b), .bool true]))) (some (.val (tv (.call a b)))) (some (.own [])) (some (.val (tv a))) (some (.val (.bool true))))) (tp := [.b true]) (by kernel_rfl) (P := (((.tup [tv b, .bool true] :: K) : List V).length < room) ∧ true = true ∧ True) (by kernel_rfl) ⟨by (try simp only [List.length_cons]); omega, rfl, trivial⟩ (whil_end false (tp := []) (by kernel_rfl) (P := True) (by kernel_rfl) trivial)))
  whp_go false (tp := [.r (.own [tv b, tv a]), .l .next (wst T n (.tup [tv a, .bool true] :: (.tup [tv b, .bool true] :: K)) (m + 1) (some (.val (.tup [tv (.call a b), .bool true]))) (some (.val (tv (.call a b)))) (some (.own [])) (some (.val (tv a))) (some (.val (.bool true))))]) (ρ' := (wst T n (.tup [tv a, .bool true] :: (.tup [tv b, .bool true] :: K)) (m + 1) (some (.val (.tup [tv (.call a b), .bool true]))) (some (.val (tv (.call a b)))) (some (.own [])) (some (.val (tv a))) (some (.val (.bool true))))) (by kernel_rfl) (P := WhilOK G (d + 1) fi__law_where (c__law_where_110 (d + 1)).x (l__law_where_110 (d + 1)).xs (wst T n K (m + 1) (some (.val (.tup [tv (.call a b), .bool true]))) (some (.val (tv (.call a b)))) (some (.own [tv b, tv a])) x7 x8) .next (wst T n (.tup [tv a, .bool true] :: (.tup [tv b, .bool true] :: K)) (m + 1) (some (.val (.tup [tv (.call a b), .bool true]))) (some (.val (tv (.call a b)))) (some (.own [])) (some (.val (tv a))) (some (.val (.bool true)))) ∧ CallOK G (d + 1) 73 [tv (.call a b)] (.own [tv b, tv a]) ∧ True) (by kernel_rfl) ⟨hw, ok_within d (.call a b), trivial⟩ (k _ _ _ _ _)
theorem wh_plus_true {a b : Mine.Tree} {K : List V} {m : Int} (hK : K.length + 4 < room) (k : ∀ x4 x5 x6 x7 x8, WW (d + 1) (wst T n (.tup [tv a, .bool true] :: (.tup [tv b, .bool true] :: K)) (m + 1) x4 x5 x6 x7 x8) Φ) : WW (d + 1) (wst T n ((.tup [tv (.plus a b), .bool true]) :: K) m x4 x5 x6 x7 x8) Φ :=
  have hw : WhilOK G (d + 1) fi__law_where (c__law_where_110 (d + 1)).x (l__law_where_110 (d + 1)).xs (wst T n K (m + 1) (some (.val (.tup [tv (.plus a b), .bool true]))) (some (.val (tv (.plus a b)))) (some (.own [tv b, tv a])) x7 x8) .next (wst T n (.tup [tv a, .bool true] :: (.tup [tv b, .bool true] :: K)) (m + 1) (some (.val (.tup [tv (.plus a b), .bool true]))) (some (.val (tv (.plus a b)))) (some (.own [])) (some (.val (tv a))) (some (.val (.bool true)))) :=
    (whil_go false (ρ := (wst T n K (m + 1) (some (.val (.tup [tv (.plus a b), .bool true]))) (some (.val (tv (.plus a b)))) (some (.own [tv b, tv a])) x7 x8)) (ρ' := (wst T n (.tup [tv b, .bool true] :: K) (m + 1) (some (.val (.tup [tv (.plus a b), .bool true]))) (some (.val (tv (.plus a b)))) (some (.own [tv a])) (some (.val (tv b))) (some (.val (.bool true))))) (tp := [.b true]) (by kernel_rfl) (P := ((K : List V).length < room) ∧ true = true ∧ True) (by kernel_rfl) ⟨by (try simp only [List.length_cons]); omega, rfl, trivial⟩ (whil_go false (ρ := (wst T n (.tup [tv b, .bool true] :: K) (m + 1) (some (.val (.tup [tv (.plus a b), .bool true]))) (some (.val (tv (.plus a b)))) (some (.own [tv a])) (some (.val (tv b))) (some (.val (.bool true))))) (ρ' := (wst T n (.tup [tv a, .bool true] :: (.tup [tv b, .bool true] :: K)) (m + 1) (some (.val (.tup [tv (.plus a b), .bool true]))) (some (.val (tv (.plus a b)))) (some (.own [])) (some (.val (tv a))) (some (.val (.bool true))))) (tp := [.b true]) (by kernel_rfl) (P := (((.tup [tv b, .bool true] :: K) : List V).length < room) ∧ true = true ∧ True) (by kernel_rfl) ⟨by (try simp only [List.length_cons]); omega, rfl, trivial⟩ (whil_end false (tp := []) (by kernel_rfl) (P := True) (by kernel_rfl) trivial)))
  whp_go false (tp := [.r (.own [tv b, tv a]), .l .next (wst T n (.tup [tv a, .bool true] :: (.tup [tv b, .bool true] :: K)) (m + 1) (some (.val (.tup [tv (.plus a b), .bool true]))) (some (.val (tv (.plus a b)))) (some (.own [])) (some (.val (tv a))) (some (.val (.bool true))))]) (ρ' := (wst T n (.tup [tv a, .bool true] :: (.tup [tv b, .bool true] :: K)) (m + 1) (some (.val (.tup [tv (.plus a b), .bool true]))) (some (.val (tv (.plus a b)))) (some (.own [])) (some (.val (tv a))) (some (.val (.bool true))))) (by kernel_rfl) (P := WhilOK G (d + 1) fi__law_where (c__law_where_110 (d + 1)).x (l__law_where_110 (d + 1)).xs (wst T n K (m + 1) (some (.val (.tup [tv (.plus a b), .bool true]))) (some (.val (tv (.plus a b)))) (some (.own [tv b, tv a])) x7 x8) .next (wst T n (.tup [tv a, .bool true] :: (.tup [tv b, .bool true] :: K)) (m + 1) (some (.val (.tup [tv (.plus a b), .bool true]))) (some (.val (tv (.plus a b)))) (some (.own [])) (some (.val (tv a))) (some (.val (.bool true)))) ∧ CallOK G (d + 1) 73 [tv (.plus a b)] (.own [tv b, tv a]) ∧ True) (by kernel_rfl) ⟨hw, ok_within d (.plus a b), trivial⟩ (k _ _ _ _ _)
theorem wh_less_true {a b : Mine.Tree} {K : List V} {m : Int} (hK : K.length + 4 < room) (k : ∀ x4 x5 x6 x7 x8, WW (d + 1) (wst T n (.tup [tv a, .bool true] :: (.tup [tv b, .bool true] :: K)) (m + 1) x4 x5 x6 x7 x8) Φ) : WW (d + 1) (wst T n ((.tup [tv (.less a b), .bool true]) :: K) m x4 x5 x6 x7 x8) Φ :=
  have hw : WhilOK G (d + 1) fi__law_where (c__law_where_110 (d + 1)).x (l__law_where_110 (d + 1)).xs (wst T n K (m + 1) (some (.val (.tup [tv (.less a b), .bool true]))) (some (.val (tv (.less a b)))) (some (.own [tv b, tv a])) x7 x8) .next (wst T n (.tup [tv a, .bool true] :: (.tup [tv b, .bool true] :: K)) (m + 1) (some (.val (.tup [tv (.less a b), .bool true]))) (some (.val (tv (.less a b)))) (some (.own [])) (some (.val (tv a))) (some (.val (.bool true)))) :=
    (whil_go false (ρ := (wst T n K (m + 1) (some (.val (.tup [tv (.less a b), .bool true]))) (some (.val (tv (.less a b)))) (some (.own [tv b, tv a])) x7 x8)) (ρ' := (wst T n (.tup [tv b, .bool true] :: K) (m + 1) (some (.val (.tup [tv (.less a b), .bool true]))) (some (.val (tv (.less a b)))) (some (.own [tv a])) (some (.val (tv b))) (some (.val (.bool true))))) (tp := [.b true]) (by kernel_rfl) (P := ((K : List V).length < room) ∧ true = true ∧ True) (by kernel_rfl) ⟨by (try simp only [List.length_cons]); omega, rfl, trivial⟩ (whil_go false (ρ := (wst T n (.tup [tv b, .bool true] :: K) (m + 1) (some (.val (.tup [tv (.less a b), .bool true]))) (some (.val (tv (.less a b)))) (some (.own [tv a])) (some (.val (tv b))) (some (.val (.bool true))))) (ρ' := (wst T n (.tup [tv a, .bool true] :: (.tup [tv b, .bool true] :: K)) (m + 1) (some (.val (.tup [tv (.less a b), .bool true]))) (some (.val (tv (.less a b)))) (some (.own [])) (some (.val (tv a))) (some (.val (.bool true))))) (tp := [.b true]) (by kernel_rfl) (P := (((.tup [tv b, .bool true] :: K) : List V).length < room) ∧ true = true ∧ True) (by kernel_rfl) ⟨by (try simp only [List.length_cons]); omega, rfl, trivial⟩ (whil_end false (tp := []) (by kernel_rfl) (P := True) (by kernel_rfl) trivial)))
  whp_go false (tp := [.r (.own [tv b, tv a]), .l .next (wst T n (.tup [tv a, .bool true] :: (.tup [tv b, .bool true] :: K)) (m + 1) (some (.val (.tup [tv (.less a b), .bool true]))) (some (.val (tv (.less a b)))) (some (.own [])) (some (.val (tv a))) (some (.val (.bool true))))]) (ρ' := (wst T n (.tup [tv a, .bool true] :: (.tup [tv b, .bool true] :: K)) (m + 1) (some (.val (.tup [tv (.less a b), .bool true]))) (some (.val (tv (.less a b)))) (some (.own [])) (some (.val (tv a))) (some (.val (.bool true))))) (by kernel_rfl) (P := WhilOK G (d + 1) fi__law_where (c__law_where_110 (d + 1)).x (l__law_where_110 (d + 1)).xs (wst T n K (m + 1) (some (.val (.tup [tv (.less a b), .bool true]))) (some (.val (tv (.less a b)))) (some (.own [tv b, tv a])) x7 x8) .next (wst T n (.tup [tv a, .bool true] :: (.tup [tv b, .bool true] :: K)) (m + 1) (some (.val (.tup [tv (.less a b), .bool true]))) (some (.val (tv (.less a b)))) (some (.own [])) (some (.val (tv a))) (some (.val (.bool true)))) ∧ CallOK G (d + 1) 73 [tv (.less a b)] (.own [tv b, tv a]) ∧ True) (by kernel_rfl) ⟨hw, ok_within d (.less a b), trivial⟩ (k _ _ _ _ _)
theorem wh_ite_true {c a b : Mine.Tree} {K : List V} {m : Int} (hK : K.length + 4 < room) (k : ∀ x4 x5 x6 x7 x8, WW (d + 1) (wst T n (.tup [tv c, .bool true] :: (.tup [tv a, .bool true] :: (.tup [tv b, .bool true] :: K))) (m + 1) x4 x5 x6 x7 x8) Φ) : WW (d + 1) (wst T n ((.tup [tv (.ite c a b), .bool true]) :: K) m x4 x5 x6 x7 x8) Φ :=
  have hw : WhilOK G (d + 1) fi__law_where (c__law_where_110 (d + 1)).x (l__law_where_110 (d + 1)).xs (wst T n K (m + 1) (some (.val (.tup [tv (.ite c a b), .bool true]))) (some (.val (tv (.ite c a b)))) (some (.own [tv b, tv a, tv c])) x7 x8) .next (wst T n (.tup [tv c, .bool true] :: (.tup [tv a, .bool true] :: (.tup [tv b, .bool true] :: K))) (m + 1) (some (.val (.tup [tv (.ite c a b), .bool true]))) (some (.val (tv (.ite c a b)))) (some (.own [])) (some (.val (tv c))) (some (.val (.bool true)))) :=
    (whil_go false (ρ := (wst T n K (m + 1) (some (.val (.tup [tv (.ite c a b), .bool true]))) (some (.val (tv (.ite c a b)))) (some (.own [tv b, tv a, tv c])) x7 x8)) (ρ' := (wst T n (.tup [tv b, .bool true] :: K) (m + 1) (some (.val (.tup [tv (.ite c a b), .bool true]))) (some (.val (tv (.ite c a b)))) (some (.own [tv a, tv c])) (some (.val (tv b))) (some (.val (.bool true))))) (tp := [.b true]) (by kernel_rfl) (P := ((K : List V).length < room) ∧ true = true ∧ True) (by kernel_rfl) ⟨by (try simp only [List.length_cons]); omega, rfl, trivial⟩ (whil_go false (ρ := (wst T n (.tup [tv b, .bool true] :: K) (m + 1) (some (.val (.tup [tv (.ite c a b), .bool true]))) (some (.val (tv (.ite c a b)))) (some (.own [tv a, tv c])) (some (.val (tv b))) (some (.val (.bool true))))) (ρ' := (wst T n (.tup [tv a, .bool true] :: (.tup [tv b, .bool true] :: K)) (m + 1) (some (.val (.tup [tv (.ite c a b), .bool true]))) (some (.val (tv (.ite c a b)))) (some (.own [tv c])) (some (.val (tv a))) (some (.val (.bool true))))) (tp := [.b true]) (by kernel_rfl) (P := (((.tup [tv b, .bool true] :: K) : List V).length < room) ∧ true = true ∧ True) (by kernel_rfl) ⟨by (try simp only [List.length_cons]); omega, rfl, trivial⟩ (whil_go false (ρ := (wst T n (.tup [tv a, .bool true] :: (.tup [tv b, .bool true] :: K)) (m + 1) (some (.val (.tup [tv (.ite c a b), .bool true]))) (some (.val (tv (.ite c a b)))) (some (.own [tv c])) (some (.val (tv a))) (some (.val (.bool true))))) (ρ' := (wst T n (.tup [tv c, .bool true] :: (.tup [tv a, .bool true] :: (.tup [tv b, .bool true] :: K))) (m + 1) (some (.val (.tup [tv (.ite c a b), .bool true]))) (some (.val (tv (.ite c a b)))) (some (.own [])) (some (.val (tv c))) (some (.val (.bool true))))) (tp := [.b true]) (by kernel_rfl) (P := (((.tup [tv a, .bool true] :: (.tup [tv b, .bool true] :: K)) : List V).length < room) ∧ true = true ∧ True) (by kernel_rfl) ⟨by (try simp only [List.length_cons]); omega, rfl, trivial⟩ (whil_end false (tp := []) (by kernel_rfl) (P := True) (by kernel_rfl) trivial))))
  whp_go false (tp := [.r (.own [tv b, tv a, tv c]), .l .next (wst T n (.tup [tv c, .bool true] :: (.tup [tv a, .bool true] :: (.tup [tv b, .bool true] :: K))) (m + 1) (some (.val (.tup [tv (.ite c a b), .bool true]))) (some (.val (tv (.ite c a b)))) (some (.own [])) (some (.val (tv c))) (some (.val (.bool true))))]) (ρ' := (wst T n (.tup [tv c, .bool true] :: (.tup [tv a, .bool true] :: (.tup [tv b, .bool true] :: K))) (m + 1) (some (.val (.tup [tv (.ite c a b), .bool true]))) (some (.val (tv (.ite c a b)))) (some (.own [])) (some (.val (tv c))) (some (.val (.bool true))))) (by kernel_rfl) (P := WhilOK G (d + 1) fi__law_where (c__law_where_110 (d + 1)).x (l__law_where_110 (d + 1)).xs (wst T n K (m + 1) (some (.val (.tup [tv (.ite c a b), .bool true]))) (some (.val (tv (.ite c a b)))) (some (.own [tv b, tv a, tv c])) x7 x8) .next (wst T n (.tup [tv c, .bool true] :: (.tup [tv a, .bool true] :: (.tup [tv b, .bool true] :: K))) (m + 1) (some (.val (.tup [tv (.ite c a b), .bool true]))) (some (.val (tv (.ite c a b)))) (some (.own [])) (some (.val (tv c))) (some (.val (.bool true)))) ∧ CallOK G (d + 1) 73 [tv (.ite c a b)] (.own [tv b, tv a, tv c]) ∧ True) (by kernel_rfl) ⟨hw, ok_within d (.ite c a b), trivial⟩ (k _ _ _ _ _)
theorem wh_num_false {i : Int} {K : List V} {m : Int} (hK : K.length + 4 < room) (k : ∀ x4 x5 x6 x7 x8, WW (d + 1) (wst T n K (m + 1) x4 x5 x6 x7 x8) Φ) : WW (d + 1) (wst T n ((.tup [tv (.num i), .bool false]) :: K) m x4 x5 x6 x7 x8) Φ :=
  have hw : WhilOK G (d + 1) fi__law_where (c__law_where_110 (d + 1)).x (l__law_where_110 (d + 1)).xs (wst T n K (m + 1) (some (.val (.tup [tv (.num i), .bool false]))) (some (.val (tv (.num i)))) (some (.own [])) x7 x8) .next (wst T n K (m + 1) (some (.val (.tup [tv (.num i), .bool false]))) (some (.val (tv (.num i)))) (some (.own [])) x7 x8) :=
    (whil_end false (tp := []) (by kernel_rfl) (P := True) (by kernel_rfl) trivial)
  whp_go false (tp := [.r (.own []), .l .next (wst T n K (m + 1) (some (.val (.tup [tv (.num i), .bool false]))) (some (.val (tv (.num i)))) (some (.own [])) x7 x8)]) (ρ' := (wst T n K (m + 1) (some (.val (.tup [tv (.num i), .bool false]))) (some (.val (tv (.num i)))) (some (.own [])) x7 x8)) (by kernel_rfl) (P := WhilOK G (d + 1) fi__law_where (c__law_where_110 (d + 1)).x (l__law_where_110 (d + 1)).xs (wst T n K (m + 1) (some (.val (.tup [tv (.num i), .bool false]))) (some (.val (tv (.num i)))) (some (.own [])) x7 x8) .next (wst T n K (m + 1) (some (.val (.tup [tv (.num i), .bool false]))) (some (.val (tv (.num i)))) (some (.own [])) x7 x8) ∧ CallOK G (d + 1) 73 [tv (.num i)] (.own []) ∧ True) (by kernel_rfl) ⟨hw, ok_within d (.num i), trivial⟩ (k _ _ _ _ _)
theorem wh_name0_false {x : List Nat} {K : List V} {m : Int} (h : (x == n) = false) (hK : K.length + 4 < room) (k : ∀ x4 x5 x6 x7 x8, WW (d + 1) (wst T n K (m + 1) x4 x5 x6 x7 x8) Φ) : WW (d + 1) (wst T n ((.tup [tv (.name x), .bool false]) :: K) m x4 x5 x6 x7 x8) Φ :=
  have hw : WhilOK G (d + 1) fi__law_where (c__law_where_110 (d + 1)).x (l__law_where_110 (d + 1)).xs (wst T n K (m + 1) (some (.val (.tup [tv (.name x), .bool false]))) (some (.val (tv (.name x)))) (some (.own [])) x7 x8) .next (wst T n K (m + 1) (some (.val (.tup [tv (.name x), .bool false]))) (some (.val (tv (.name x)))) (some (.own [])) x7 x8) :=
    (whil_end false (tp := []) (by kernel_rfl) (P := True) (by kernel_rfl) trivial)
  whp_go false (tp := [.b false, .r (.own []), .l .next (wst T n K (m + 1) (some (.val (.tup [tv (.name x), .bool false]))) (some (.val (tv (.name x)))) (some (.own [])) x7 x8)]) (ρ' := (wst T n K (m + 1) (some (.val (.tup [tv (.name x), .bool false]))) (some (.val (tv (.name x)))) (some (.own [])) x7 x8)) (by kernel_rfl) (P := WhilOK G (d + 1) fi__law_where (c__law_where_110 (d + 1)).x (l__law_where_110 (d + 1)).xs (wst T n K (m + 1) (some (.val (.tup [tv (.name x), .bool false]))) (some (.val (tv (.name x)))) (some (.own [])) x7 x8) .next (wst T n K (m + 1) (some (.val (.tup [tv (.name x), .bool false]))) (some (.val (tv (.name x)))) (some (.own [])) x7 x8) ∧ CallOK G (d + 1) 73 [tv (.name x)] (.own []) ∧ (x == n) = false ∧ True) (by kernel_rfl) ⟨hw, ok_within d (.name x), h, trivial⟩ (k _ _ _ _ _)
theorem wh_call_false {a b : Mine.Tree} {K : List V} {m : Int} (hK : K.length + 4 < room) (k : ∀ x4 x5 x6 x7 x8, WW (d + 1) (wst T n (.tup [tv a, .bool false] :: (.tup [tv b, .bool false] :: K)) (m + 1) x4 x5 x6 x7 x8) Φ) : WW (d + 1) (wst T n ((.tup [tv (.call a b), .bool false]) :: K) m x4 x5 x6 x7 x8) Φ :=
  have hw : WhilOK G (d + 1) fi__law_where (c__law_where_110 (d + 1)).x (l__law_where_110 (d + 1)).xs (wst T n K (m + 1) (some (.val (.tup [tv (.call a b), .bool false]))) (some (.val (tv (.call a b)))) (some (.own [tv b, tv a])) x7 x8) .next (wst T n (.tup [tv a, .bool false] :: (.tup [tv b, .bool false] :: K)) (m + 1) (some (.val (.tup [tv (.call a b), .bool false]))) (some (.val (tv (.call a b)))) (some (.own [])) (some (.val (tv a))) (some (.val (.bool false)))) :=
    (whil_go false (ρ := (wst T n K (m + 1) (some (.val (.tup [tv (.call a b), .bool false]))) (some (.val (tv (.call a b)))) (some (.own [tv b, tv a])) x7 x8)) (ρ' := (wst T n (.tup [tv b, .bool false] :: K) (m + 1) (some (.val (.tup [tv (.call a b), .bool false]))) (some (.val (tv (.call a b)))) (some (.own [tv a])) (some (.val (tv b))) (some (.val (.bool false))))) (tp := [.b false]) (by kernel_rfl) (P := ((K : List V).length < room) ∧ false = false ∧ True) (by kernel_rfl) ⟨by (try simp only [List.length_cons]); omega, rfl, trivial⟩ (whil_go false (ρ := (wst T n (.tup [tv b, .bool false] :: K) (m + 1) (some (.val (.tup [tv (.call a b), .bool false]))) (some (.val (tv (.call a b)))) (some (.own [tv a])) (some (.val (tv b))) (some (.val (.bool false))))) (ρ' := (wst T n (.tup [tv a, .bool false] :: (.tup [tv b, .bool false] :: K)) (m + 1) (some (.val (.tup [tv (.call a b), .bool false]))) (some (.val (tv (.call a b)))) (some (.own [])) (some (.val (tv a))) (some (.val (.bool false))))) (tp := [.b false]) (by kernel_rfl) (P := (((.tup [tv b, .bool false] :: K) : List V).length < room) ∧ false = false ∧ True) (by kernel_rfl) ⟨by (try simp only [List.length_cons]); omega, rfl, trivial⟩ (whil_end false (tp := []) (by kernel_rfl) (P := True) (by kernel_rfl) trivial)))
  whp_go false (tp := [.r (.own [tv b, tv a]), .l .next (wst T n (.tup [tv a, .bool false] :: (.tup [tv b, .bool false] :: K)) (m + 1) (some (.val (.tup [tv (.call a b), .bool false]))) (some (.val (tv (.call a b)))) (some (.own [])) (some (.val (tv a))) (some (.val (.bool false))))]) (ρ' := (wst T n (.tup [tv a, .bool false] :: (.tup [tv b, .bool false] :: K)) (m + 1) (some (.val (.tup [tv (.call a b), .bool false]))) (some (.val (tv (.call a b)))) (some (.own [])) (some (.val (tv a))) (some (.val (.bool false))))) (by kernel_rfl) (P := WhilOK G (d + 1) fi__law_where (c__law_where_110 (d + 1)).x (l__law_where_110 (d + 1)).xs (wst T n K (m + 1) (some (.val (.tup [tv (.call a b), .bool false]))) (some (.val (tv (.call a b)))) (some (.own [tv b, tv a])) x7 x8) .next (wst T n (.tup [tv a, .bool false] :: (.tup [tv b, .bool false] :: K)) (m + 1) (some (.val (.tup [tv (.call a b), .bool false]))) (some (.val (tv (.call a b)))) (some (.own [])) (some (.val (tv a))) (some (.val (.bool false)))) ∧ CallOK G (d + 1) 73 [tv (.call a b)] (.own [tv b, tv a]) ∧ True) (by kernel_rfl) ⟨hw, ok_within d (.call a b), trivial⟩ (k _ _ _ _ _)
theorem wh_plus_false {a b : Mine.Tree} {K : List V} {m : Int} (hK : K.length + 4 < room) (k : ∀ x4 x5 x6 x7 x8, WW (d + 1) (wst T n (.tup [tv a, .bool false] :: (.tup [tv b, .bool false] :: K)) (m + 1) x4 x5 x6 x7 x8) Φ) : WW (d + 1) (wst T n ((.tup [tv (.plus a b), .bool false]) :: K) m x4 x5 x6 x7 x8) Φ :=
  have hw : WhilOK G (d + 1) fi__law_where (c__law_where_110 (d + 1)).x (l__law_where_110 (d + 1)).xs (wst T n K (m + 1) (some (.val (.tup [tv (.plus a b), .bool false]))) (some (.val (tv (.plus a b)))) (some (.own [tv b, tv a])) x7 x8) .next (wst T n (.tup [tv a, .bool false] :: (.tup [tv b, .bool false] :: K)) (m + 1) (some (.val (.tup [tv (.plus a b), .bool false]))) (some (.val (tv (.plus a b)))) (some (.own [])) (some (.val (tv a))) (some (.val (.bool false)))) :=
    (whil_go false (ρ := (wst T n K (m + 1) (some (.val (.tup [tv (.plus a b), .bool false]))) (some (.val (tv (.plus a b)))) (some (.own [tv b, tv a])) x7 x8)) (ρ' := (wst T n (.tup [tv b, .bool false] :: K) (m + 1) (some (.val (.tup [tv (.plus a b), .bool false]))) (some (.val (tv (.plus a b)))) (some (.own [tv a])) (some (.val (tv b))) (some (.val (.bool false))))) (tp := [.b false]) (by kernel_rfl) (P := ((K : List V).length < room) ∧ false = false ∧ True) (by kernel_rfl) ⟨by (try simp only [List.length_cons]); omega, rfl, trivial⟩ (whil_go false (ρ := (wst T n (.tup [tv b, .bool false] :: K) (m + 1) (some (.val (.tup [tv (.plus a b), .bool false]))) (some (.val (tv (.plus a b)))) (some (.own [tv a])) (some (.val (tv b))) (some (.val (.bool false))))) (ρ' := (wst T n (.tup [tv a, .bool false] :: (.tup [tv b, .bool false] :: K)) (m + 1) (some (.val (.tup [tv (.plus a b), .bool false]))) (some (.val (tv (.plus a b)))) (some (.own [])) (some (.val (tv a))) (some (.val (.bool false))))) (tp := [.b false]) (by kernel_rfl) (P := (((.tup [tv b, .bool false] :: K) : List V).length < room) ∧ false = false ∧ True) (by kernel_rfl) ⟨by (try simp only [List.length_cons]); omega, rfl, trivial⟩ (whil_end false (tp := []) (by kernel_rfl) (P := True) (by kernel_rfl) trivial)))
  whp_go false (tp := [.r (.own [tv b, tv a]), .l .next (wst T n (.tup [tv a, .bool false] :: (.tup [tv b, .bool false] :: K)) (m + 1) (some (.val (.tup [tv (.plus a b), .bool false]))) (some (.val (tv (.plus a b)))) (some (.own [])) (some (.val (tv a))) (some (.val (.bool false))))]) (ρ' := (wst T n (.tup [tv a, .bool false] :: (.tup [tv b, .bool false] :: K)) (m + 1) (some (.val (.tup [tv (.plus a b), .bool false]))) (some (.val (tv (.plus a b)))) (some (.own [])) (some (.val (tv a))) (some (.val (.bool false))))) (by kernel_rfl) (P := WhilOK G (d + 1) fi__law_where (c__law_where_110 (d + 1)).x (l__law_where_110 (d + 1)).xs (wst T n K (m + 1) (some (.val (.tup [tv (.plus a b), .bool false]))) (some (.val (tv (.plus a b)))) (some (.own [tv b, tv a])) x7 x8) .next (wst T n (.tup [tv a, .bool false] :: (.tup [tv b, .bool false] :: K)) (m + 1) (some (.val (.tup [tv (.plus a b), .bool false]))) (some (.val (tv (.plus a b)))) (some (.own [])) (some (.val (tv a))) (some (.val (.bool false)))) ∧ CallOK G (d + 1) 73 [tv (.plus a b)] (.own [tv b, tv a]) ∧ True) (by kernel_rfl) ⟨hw, ok_within d (.plus a b), trivial⟩ (k _ _ _ _ _)
theorem wh_less_false {a b : Mine.Tree} {K : List V} {m : Int} (hK : K.length + 4 < room) (k : ∀ x4 x5 x6 x7 x8, WW (d + 1) (wst T n (.tup [tv a, .bool false] :: (.tup [tv b, .bool false] :: K)) (m + 1) x4 x5 x6 x7 x8) Φ) : WW (d + 1) (wst T n ((.tup [tv (.less a b), .bool false]) :: K) m x4 x5 x6 x7 x8) Φ :=
  have hw : WhilOK G (d + 1) fi__law_where (c__law_where_110 (d + 1)).x (l__law_where_110 (d + 1)).xs (wst T n K (m + 1) (some (.val (.tup [tv (.less a b), .bool false]))) (some (.val (tv (.less a b)))) (some (.own [tv b, tv a])) x7 x8) .next (wst T n (.tup [tv a, .bool false] :: (.tup [tv b, .bool false] :: K)) (m + 1) (some (.val (.tup [tv (.less a b), .bool false]))) (some (.val (tv (.less a b)))) (some (.own [])) (some (.val (tv a))) (some (.val (.bool false)))) :=
    (whil_go false (ρ := (wst T n K (m + 1) (some (.val (.tup [tv (.less a b), .bool false]))) (some (.val (tv (.less a b)))) (some (.own [tv b, tv a])) x7 x8)) (ρ' := (wst T n (.tup [tv b, .bool false] :: K) (m + 1) (some (.val (.tup [tv (.less a b), .bool false]))) (some (.val (tv (.less a b)))) (some (.own [tv a])) (some (.val (tv b))) (some (.val (.bool false))))) (tp := [.b false]) (by kernel_rfl) (P := ((K : List V).length < room) ∧ false = false ∧ True) (by kernel_rfl) ⟨by (try simp only [List.length_cons]); omega, rfl, trivial⟩ (whil_go false (ρ := (wst T n (.tup [tv b, .bool false] :: K) (m + 1) (some (.val (.tup [tv (.less a b), .bool false]))) (some (.val (tv (.less a b)))) (some (.own [tv a])) (some (.val (tv b))) (some (.val (.bool false))))) (ρ' := (wst T n (.tup [tv a, .bool false] :: (.tup [tv b, .bool false] :: K)) (m + 1) (some (.val (.tup [tv (.less a b), .bool false]))) (some (.val (tv (.less a b)))) (some (.own [])) (some (.val (tv a))) (some (.val (.bool false))))) (tp := [.b false]) (by kernel_rfl) (P := (((.tup [tv b, .bool false] :: K) : List V).length < room) ∧ false = false ∧ True) (by kernel_rfl) ⟨by (try simp only [List.length_cons]); omega, rfl, trivial⟩ (whil_end false (tp := []) (by kernel_rfl) (P := True) (by kernel_rfl) trivial)))
  whp_go false (tp := [.r (.own [tv b, tv a]), .l .next (wst T n (.tup [tv a, .bool false] :: (.tup [tv b, .bool false] :: K)) (m + 1) (some (.val (.tup [tv (.less a b), .bool false]))) (some (.val (tv (.less a b)))) (some (.own [])) (some (.val (tv a))) (some (.val (.bool false))))]) (ρ' := (wst T n (.tup [tv a, .bool false] :: (.tup [tv b, .bool false] :: K)) (m + 1) (some (.val (.tup [tv (.less a b), .bool false]))) (some (.val (tv (.less a b)))) (some (.own [])) (some (.val (tv a))) (some (.val (.bool false))))) (by kernel_rfl) (P := WhilOK G (d + 1) fi__law_where (c__law_where_110 (d + 1)).x (l__law_where_110 (d + 1)).xs (wst T n K (m + 1) (some (.val (.tup [tv (.less a b), .bool false]))) (some (.val (tv (.less a b)))) (some (.own [tv b, tv a])) x7 x8) .next (wst T n (.tup [tv a, .bool false] :: (.tup [tv b, .bool false] :: K)) (m + 1) (some (.val (.tup [tv (.less a b), .bool false]))) (some (.val (tv (.less a b)))) (some (.own [])) (some (.val (tv a))) (some (.val (.bool false)))) ∧ CallOK G (d + 1) 73 [tv (.less a b)] (.own [tv b, tv a]) ∧ True) (by kernel_rfl) ⟨hw, ok_within d (.less a b), trivial⟩ (k _ _ _ _ _)
theorem wh_ite_false {c a b : Mine.Tree} {K : List V} {m : Int} (hK : K.length + 4 < room) (k : ∀ x4 x5 x6 x7 x8, WW (d + 1) (wst T n (.tup [tv c, .bool false] :: (.tup [tv a, .bool false] :: (.tup [tv b, .bool false] :: K))) (m + 1) x4 x5 x6 x7 x8) Φ) : WW (d + 1) (wst T n ((.tup [tv (.ite c a b), .bool false]) :: K) m x4 x5 x6 x7 x8) Φ :=
  have hw : WhilOK G (d + 1) fi__law_where (c__law_where_110 (d + 1)).x (l__law_where_110 (d + 1)).xs (wst T n K (m + 1) (some (.val (.tup [tv (.ite c a b), .bool false]))) (some (.val (tv (.ite c a b)))) (some (.own [tv b, tv a, tv c])) x7 x8) .next (wst T n (.tup [tv c, .bool false] :: (.tup [tv a, .bool false] :: (.tup [tv b, .bool false] :: K))) (m + 1) (some (.val (.tup [tv (.ite c a b), .bool false]))) (some (.val (tv (.ite c a b)))) (some (.own [])) (some (.val (tv c))) (some (.val (.bool false)))) :=
    (whil_go false (ρ := (wst T n K (m + 1) (some (.val (.tup [tv (.ite c a b), .bool false]))) (some (.val (tv (.ite c a b)))) (some (.own [tv b, tv a, tv c])) x7 x8)) (ρ' := (wst T n (.tup [tv b, .bool false] :: K) (m + 1) (some (.val (.tup [tv (.ite c a b), .bool false]))) (some (.val (tv (.ite c a b)))) (some (.own [tv a, tv c])) (some (.val (tv b))) (some (.val (.bool false))))) (tp := [.b false]) (by kernel_rfl) (P := ((K : List V).length < room) ∧ false = false ∧ True) (by kernel_rfl) ⟨by (try simp only [List.length_cons]); omega, rfl, trivial⟩ (whil_go false (ρ := (wst T n (.tup [tv b, .bool false] :: K) (m + 1) (some (.val (.tup [tv (.ite c a b), .bool false]))) (some (.val (tv (.ite c a b)))) (some (.own [tv a, tv c])) (some (.val (tv b))) (some (.val (.bool false))))) (ρ' := (wst T n (.tup [tv a, .bool false] :: (.tup [tv b, .bool false] :: K)) (m + 1) (some (.val (.tup [tv (.ite c a b), .bool false]))) (some (.val (tv (.ite c a b)))) (some (.own [tv c])) (some (.val (tv a))) (some (.val (.bool false))))) (tp := [.b false]) (by kernel_rfl) (P := (((.tup [tv b, .bool false] :: K) : List V).length < room) ∧ false = false ∧ True) (by kernel_rfl) ⟨by (try simp only [List.length_cons]); omega, rfl, trivial⟩ (whil_go false (ρ := (wst T n (.tup [tv a, .bool false] :: (.tup [tv b, .bool false] :: K)) (m + 1) (some (.val (.tup [tv (.ite c a b), .bool false]))) (some (.val (tv (.ite c a b)))) (some (.own [tv c])) (some (.val (tv a))) (some (.val (.bool false))))) (ρ' := (wst T n (.tup [tv c, .bool false] :: (.tup [tv a, .bool false] :: (.tup [tv b, .bool false] :: K))) (m + 1) (some (.val (.tup [tv (.ite c a b), .bool false]))) (some (.val (tv (.ite c a b)))) (some (.own [])) (some (.val (tv c))) (some (.val (.bool false))))) (tp := [.b false]) (by kernel_rfl) (P := (((.tup [tv a, .bool false] :: (.tup [tv b, .bool false] :: K)) : List V).length < room) ∧ false = false ∧ True) (by kernel_rfl) ⟨by (try simp only [List.length_cons]); omega, rfl, trivial⟩ (whil_end false (tp := []) (by kernel_rfl) (P := True) (by kernel_rfl) trivial))))
  whp_go false (tp := [.r (.own [tv b, tv a, tv c]), .l .next (wst T n (.tup [tv c, .bool false] :: (.tup [tv a, .bool false] :: (.tup [tv b, .bool false] :: K))) (m + 1) (some (.val (.tup [tv (.ite c a b), .bool false]))) (some (.val (tv (.ite c a b)))) (some (.own [])) (some (.val (tv c))) (some (.val (.bool false))))]) (ρ' := (wst T n (.tup [tv c, .bool false] :: (.tup [tv a, .bool false] :: (.tup [tv b, .bool false] :: K))) (m + 1) (some (.val (.tup [tv (.ite c a b), .bool false]))) (some (.val (tv (.ite c a b)))) (some (.own [])) (some (.val (tv c))) (some (.val (.bool false))))) (by kernel_rfl) (P := WhilOK G (d + 1) fi__law_where (c__law_where_110 (d + 1)).x (l__law_where_110 (d + 1)).xs (wst T n K (m + 1) (some (.val (.tup [tv (.ite c a b), .bool false]))) (some (.val (tv (.ite c a b)))) (some (.own [tv b, tv a, tv c])) x7 x8) .next (wst T n (.tup [tv c, .bool false] :: (.tup [tv a, .bool false] :: (.tup [tv b, .bool false] :: K))) (m + 1) (some (.val (.tup [tv (.ite c a b), .bool false]))) (some (.val (tv (.ite c a b)))) (some (.own [])) (some (.val (tv c))) (some (.val (.bool false)))) ∧ CallOK G (d + 1) 73 [tv (.ite c a b)] (.own [tv b, tv a, tv c]) ∧ True) (by kernel_rfl) ⟨hw, ok_within d (.ite c a b), trivial⟩ (k _ _ _ _ _)
theorem wh_name1_true {x : List Nat} {K : List V} {m : Int} (h : (x == n) = true) (hK : K.length + 4 < room) (k : ∀ x4 x5 x6 x7 x8, WW (d + 1) (wst T n K (m + 1) x4 x5 x6 x7 x8) Φ) : WW (d + 1) (wst T n ((.tup [tv (.name x), .bool true]) :: K) m x4 x5 x6 x7 x8) Φ :=
  have hw : WhilOK G (d + 1) fi__law_where (c__law_where_110 (d + 1)).x (l__law_where_110 (d + 1)).xs (wst T n K (m + 1) (some (.val (.tup [tv (.name x), .bool true]))) (some (.val (tv (.name x)))) (some (.own [])) x7 x8) .next (wst T n K (m + 1) (some (.val (.tup [tv (.name x), .bool true]))) (some (.val (tv (.name x)))) (some (.own [])) x7 x8) :=
    (whil_end false (tp := []) (by kernel_rfl) (P := True) (by kernel_rfl) trivial)
  whp_go false (tp := [.b true, .r (.own []), .l .next (wst T n K (m + 1) (some (.val (.tup [tv (.name x), .bool true]))) (some (.val (tv (.name x)))) (some (.own [])) x7 x8)]) (ρ' := (wst T n K (m + 1) (some (.val (.tup [tv (.name x), .bool true]))) (some (.val (tv (.name x)))) (some (.own [])) x7 x8)) (by kernel_rfl) (P := WhilOK G (d + 1) fi__law_where (c__law_where_110 (d + 1)).x (l__law_where_110 (d + 1)).xs (wst T n K (m + 1) (some (.val (.tup [tv (.name x), .bool true]))) (some (.val (tv (.name x)))) (some (.own [])) x7 x8) .next (wst T n K (m + 1) (some (.val (.tup [tv (.name x), .bool true]))) (some (.val (tv (.name x)))) (some (.own [])) x7 x8) ∧ CallOK G (d + 1) 73 [tv (.name x)] (.own []) ∧ (x == n) = true ∧ True) (by kernel_rfl) ⟨hw, ok_within d (.name x), h, trivial⟩ (k _ _ _ _ _)
theorem wh_fn_true {x : List Nat} {b : Mine.Tree} {K : List V} {m : Int} (hK : K.length + 4 < room) (k : ∀ x4 x5 x6 x7 x8, WW (d + 1) (wst T n (.tup [tv b, .bool true] :: K) (m + 1) x4 x5 x6 x7 x8) Φ) : WW (d + 1) (wst T n ((.tup [tv (.fn x b), .bool true]) :: K) m x4 x5 x6 x7 x8) Φ :=
  have hw : WhilOK G (d + 1) fi__law_where (c__law_where_110 (d + 1)).x (l__law_where_110 (d + 1)).xs (wst T n K (m + 1) (some (.val (.tup [tv (.fn x b), .bool true]))) (some (.val (tv (.fn x b)))) (some (.own [tv b])) x7 x8) .next (wst T n (.tup [tv b, .bool true] :: K) (m + 1) (some (.val (.tup [tv (.fn x b), .bool true]))) (some (.val (tv (.fn x b)))) (some (.own [])) (some (.val (tv b))) (some (.val (.bool true)))) :=
    (whil_go false (ρ := (wst T n K (m + 1) (some (.val (.tup [tv (.fn x b), .bool true]))) (some (.val (tv (.fn x b)))) (some (.own [tv b])) x7 x8)) (ρ' := (wst T n (.tup [tv b, .bool true] :: K) (m + 1) (some (.val (.tup [tv (.fn x b), .bool true]))) (some (.val (tv (.fn x b)))) (some (.own [])) (some (.val (tv b))) (some (.val (.bool true))))) (tp := [.b true]) (by kernel_rfl) (P := ((K : List V).length < room) ∧ true = true ∧ True) (by kernel_rfl) ⟨by (try simp only [List.length_cons]); omega, rfl, trivial⟩ (whil_end false (tp := []) (by kernel_rfl) (P := True) (by kernel_rfl) trivial))
  whp_go false (tp := [.r (.own [tv b]), .l .next (wst T n (.tup [tv b, .bool true] :: K) (m + 1) (some (.val (.tup [tv (.fn x b), .bool true]))) (some (.val (tv (.fn x b)))) (some (.own [])) (some (.val (tv b))) (some (.val (.bool true))))]) (ρ' := (wst T n (.tup [tv b, .bool true] :: K) (m + 1) (some (.val (.tup [tv (.fn x b), .bool true]))) (some (.val (tv (.fn x b)))) (some (.own [])) (some (.val (tv b))) (some (.val (.bool true))))) (by kernel_rfl) (P := WhilOK G (d + 1) fi__law_where (c__law_where_110 (d + 1)).x (l__law_where_110 (d + 1)).xs (wst T n K (m + 1) (some (.val (.tup [tv (.fn x b), .bool true]))) (some (.val (tv (.fn x b)))) (some (.own [tv b])) x7 x8) .next (wst T n (.tup [tv b, .bool true] :: K) (m + 1) (some (.val (.tup [tv (.fn x b), .bool true]))) (some (.val (tv (.fn x b)))) (some (.own [])) (some (.val (tv b))) (some (.val (.bool true)))) ∧ CallOK G (d + 1) 73 [tv (.fn x b)] (.own [tv b]) ∧ True) (by kernel_rfl) ⟨hw, ok_within d (.fn x b), trivial⟩ (k _ _ _ _ _)
theorem wh_lt_true {x : List Nat} {e b : Mine.Tree} {K : List V} {m : Int} (hK : K.length + 4 < room) (k : ∀ x4 x5 x6 x7 x8, WW (d + 1) (wst T n (.tup [tv e, .bool true] :: (.tup [tv b, .bool true] :: K)) (m + 1) x4 x5 x6 x7 x8) Φ) : WW (d + 1) (wst T n ((.tup [tv (.lt x e b), .bool true]) :: K) m x4 x5 x6 x7 x8) Φ :=
  have hw : WhilOK G (d + 1) fi__law_where (c__law_where_110 (d + 1)).x (l__law_where_110 (d + 1)).xs (wst T n K (m + 1) (some (.val (.tup [tv (.lt x e b), .bool true]))) (some (.val (tv (.lt x e b)))) (some (.own [tv b, tv e])) x7 x8) .next (wst T n (.tup [tv e, .bool true] :: (.tup [tv b, .bool true] :: K)) (m + 1) (some (.val (.tup [tv (.lt x e b), .bool true]))) (some (.val (tv (.lt x e b)))) (some (.own [])) (some (.val (tv e))) (some (.val (.bool true)))) :=
    (whil_go false (ρ := (wst T n K (m + 1) (some (.val (.tup [tv (.lt x e b), .bool true]))) (some (.val (tv (.lt x e b)))) (some (.own [tv b, tv e])) x7 x8)) (ρ' := (wst T n (.tup [tv b, .bool true] :: K) (m + 1) (some (.val (.tup [tv (.lt x e b), .bool true]))) (some (.val (tv (.lt x e b)))) (some (.own [tv e])) (some (.val (tv b))) (some (.val (.bool true))))) (tp := [.b true]) (by kernel_rfl) (P := ((K : List V).length < room) ∧ true = true ∧ True) (by kernel_rfl) ⟨by (try simp only [List.length_cons]); omega, rfl, trivial⟩ (whil_go false (ρ := (wst T n (.tup [tv b, .bool true] :: K) (m + 1) (some (.val (.tup [tv (.lt x e b), .bool true]))) (some (.val (tv (.lt x e b)))) (some (.own [tv e])) (some (.val (tv b))) (some (.val (.bool true))))) (ρ' := (wst T n (.tup [tv e, .bool true] :: (.tup [tv b, .bool true] :: K)) (m + 1) (some (.val (.tup [tv (.lt x e b), .bool true]))) (some (.val (tv (.lt x e b)))) (some (.own [])) (some (.val (tv e))) (some (.val (.bool true))))) (tp := [.b true]) (by kernel_rfl) (P := (((.tup [tv b, .bool true] :: K) : List V).length < room) ∧ true = true ∧ True) (by kernel_rfl) ⟨by (try simp only [List.length_cons]); omega, rfl, trivial⟩ (whil_end false (tp := []) (by kernel_rfl) (P := True) (by kernel_rfl) trivial)))
  whp_go false (tp := [.r (.own [tv b, tv e]), .l .next (wst T n (.tup [tv e, .bool true] :: (.tup [tv b, .bool true] :: K)) (m + 1) (some (.val (.tup [tv (.lt x e b), .bool true]))) (some (.val (tv (.lt x e b)))) (some (.own [])) (some (.val (tv e))) (some (.val (.bool true))))]) (ρ' := (wst T n (.tup [tv e, .bool true] :: (.tup [tv b, .bool true] :: K)) (m + 1) (some (.val (.tup [tv (.lt x e b), .bool true]))) (some (.val (tv (.lt x e b)))) (some (.own [])) (some (.val (tv e))) (some (.val (.bool true))))) (by kernel_rfl) (P := WhilOK G (d + 1) fi__law_where (c__law_where_110 (d + 1)).x (l__law_where_110 (d + 1)).xs (wst T n K (m + 1) (some (.val (.tup [tv (.lt x e b), .bool true]))) (some (.val (tv (.lt x e b)))) (some (.own [tv b, tv e])) x7 x8) .next (wst T n (.tup [tv e, .bool true] :: (.tup [tv b, .bool true] :: K)) (m + 1) (some (.val (.tup [tv (.lt x e b), .bool true]))) (some (.val (tv (.lt x e b)))) (some (.own [])) (some (.val (tv e))) (some (.val (.bool true)))) ∧ CallOK G (d + 1) 73 [tv (.lt x e b)] (.own [tv b, tv e]) ∧ True) (by kernel_rfl) ⟨hw, ok_within d (.lt x e b), trivial⟩ (k _ _ _ _ _)
theorem wh_fn_false_true {x : List Nat} {b : Mine.Tree} {K : List V} {m : Int} (h : (x == n) = true) (hK : K.length + 4 < room) (k : ∀ x4 x5 x6 x7 x8, WW (d + 1) (wst T n (.tup [tv b, .bool true] :: K) (m + 1) x4 x5 x6 x7 x8) Φ) : WW (d + 1) (wst T n ((.tup [tv (.fn x b), .bool false]) :: K) m x4 x5 x6 x7 x8) Φ :=
  have hw : WhilOK G (d + 1) fi__law_where (c__law_where_110 (d + 1)).x (l__law_where_110 (d + 1)).xs (wst T n K (m + 1) (some (.val (.tup [tv (.fn x b), .bool false]))) (some (.val (tv (.fn x b)))) (some (.own [tv b])) x7 x8) .next (wst T n (.tup [tv b, .bool (x == n)] :: K) (m + 1) (some (.val (.tup [tv (.fn x b), .bool false]))) (some (.val (tv (.fn x b)))) (some (.own [])) (some (.val (tv b))) (some (.val (.bool (x == n))))) :=
    (whil_go false (ρ := (wst T n K (m + 1) (some (.val (.tup [tv (.fn x b), .bool false]))) (some (.val (tv (.fn x b)))) (some (.own [tv b])) x7 x8)) (ρ' := (wst T n (.tup [tv b, .bool (x == n)] :: K) (m + 1) (some (.val (.tup [tv (.fn x b), .bool false]))) (some (.val (tv (.fn x b)))) (some (.own [])) (some (.val (tv b))) (some (.val (.bool (x == n)))))) (tp := [.b true]) (by kernel_rfl) (P := ((K : List V).length < room) ∧ (x == n) = true ∧ True) (by kernel_rfl) ⟨by (try simp only [List.length_cons]); omega, h, trivial⟩ (whil_end false (tp := []) (by kernel_rfl) (P := True) (by kernel_rfl) trivial))
  whp_go false (tp := [.r (.own [tv b]), .l .next (wst T n (.tup [tv b, .bool (x == n)] :: K) (m + 1) (some (.val (.tup [tv (.fn x b), .bool false]))) (some (.val (tv (.fn x b)))) (some (.own [])) (some (.val (tv b))) (some (.val (.bool (x == n)))))]) (ρ' := (wst T n (.tup [tv b, .bool (x == n)] :: K) (m + 1) (some (.val (.tup [tv (.fn x b), .bool false]))) (some (.val (tv (.fn x b)))) (some (.own [])) (some (.val (tv b))) (some (.val (.bool (x == n)))))) (by kernel_rfl) (P := WhilOK G (d + 1) fi__law_where (c__law_where_110 (d + 1)).x (l__law_where_110 (d + 1)).xs (wst T n K (m + 1) (some (.val (.tup [tv (.fn x b), .bool false]))) (some (.val (tv (.fn x b)))) (some (.own [tv b])) x7 x8) .next (wst T n (.tup [tv b, .bool (x == n)] :: K) (m + 1) (some (.val (.tup [tv (.fn x b), .bool false]))) (some (.val (tv (.fn x b)))) (some (.own [])) (some (.val (tv b))) (some (.val (.bool (x == n))))) ∧ CallOK G (d + 1) 73 [tv (.fn x b)] (.own [tv b]) ∧ True) (by kernel_rfl) ⟨hw, ok_within d (.fn x b), trivial⟩ (by rw [h]; exact k _ _ _ _ _)
theorem wh_lt_false_true {x : List Nat} {e b : Mine.Tree} {K : List V} {m : Int} (h : (x == n) = true) (hK : K.length + 4 < room) (k : ∀ x4 x5 x6 x7 x8, WW (d + 1) (wst T n (.tup [tv e, .bool false] :: (.tup [tv b, .bool true] :: K)) (m + 1) x4 x5 x6 x7 x8) Φ) : WW (d + 1) (wst T n ((.tup [tv (.lt x e b), .bool false]) :: K) m x4 x5 x6 x7 x8) Φ :=
  have hw : WhilOK G (d + 1) fi__law_where (c__law_where_110 (d + 1)).x (l__law_where_110 (d + 1)).xs (wst T n K (m + 1) (some (.val (.tup [tv (.lt x e b), .bool false]))) (some (.val (tv (.lt x e b)))) (some (.own [tv b, tv e])) x7 x8) .next (wst T n (.tup [tv e, .bool false] :: (.tup [tv b, .bool true] :: K)) (m + 1) (some (.val (.tup [tv (.lt x e b), .bool false]))) (some (.val (tv (.lt x e b)))) (some (.own [])) (some (.val (tv e))) (some (.val (.bool false)))) :=
    (whil_go false (ρ := (wst T n K (m + 1) (some (.val (.tup [tv (.lt x e b), .bool false]))) (some (.val (tv (.lt x e b)))) (some (.own [tv b, tv e])) x7 x8)) (ρ' := (wst T n (.tup [tv b, .bool true] :: K) (m + 1) (some (.val (.tup [tv (.lt x e b), .bool false]))) (some (.val (tv (.lt x e b)))) (some (.own [tv e])) (some (.val (tv b))) (some (.val (.bool true))))) (tp := [.b false, .b true]) (by kernel_rfl) (P := ((K : List V).length < room) ∧ (x == n) = true ∧ false = false ∧ True) (by kernel_rfl) ⟨by (try simp only [List.length_cons]); omega, h, rfl, trivial⟩ (whil_go false (ρ := (wst T n (.tup [tv b, .bool true] :: K) (m + 1) (some (.val (.tup [tv (.lt x e b), .bool false]))) (some (.val (tv (.lt x e b)))) (some (.own [tv e])) (some (.val (tv b))) (some (.val (.bool true))))) (ρ' := (wst T n (.tup [tv e, .bool false] :: (.tup [tv b, .bool true] :: K)) (m + 1) (some (.val (.tup [tv (.lt x e b), .bool false]))) (some (.val (tv (.lt x e b)))) (some (.own [])) (some (.val (tv e))) (some (.val (.bool false))))) (tp := [.b false, .b true]) (by kernel_rfl) (P := (((.tup [tv b, .bool true] :: K) : List V).length < room) ∧ (x == n) = true ∧ false = false ∧ True) (by kernel_rfl) ⟨by (try simp only [List.length_cons]); omega, h, rfl, trivial⟩ (whil_end false (tp := []) (by kernel_rfl) (P := True) (by kernel_rfl) trivial)))
  whp_go false (tp := [.r (.own [tv b, tv e]), .l .next (wst T n (.tup [tv e, .bool false] :: (.tup [tv b, .bool true] :: K)) (m + 1) (some (.val (.tup [tv (.lt x e b), .bool false]))) (some (.val (tv (.lt x e b)))) (some (.own [])) (some (.val (tv e))) (some (.val (.bool false))))]) (ρ' := (wst T n (.tup [tv e, .bool false] :: (.tup [tv b, .bool true] :: K)) (m + 1) (some (.val (.tup [tv (.lt x e b), .bool false]))) (some (.val (tv (.lt x e b)))) (some (.own [])) (some (.val (tv e))) (some (.val (.bool false))))) (by kernel_rfl) (P := WhilOK G (d + 1) fi__law_where (c__law_where_110 (d + 1)).x (l__law_where_110 (d + 1)).xs (wst T n K (m + 1) (some (.val (.tup [tv (.lt x e b), .bool false]))) (some (.val (tv (.lt x e b)))) (some (.own [tv b, tv e])) x7 x8) .next (wst T n (.tup [tv e, .bool false] :: (.tup [tv b, .bool true] :: K)) (m + 1) (some (.val (.tup [tv (.lt x e b), .bool false]))) (some (.val (tv (.lt x e b)))) (some (.own [])) (some (.val (tv e))) (some (.val (.bool false)))) ∧ CallOK G (d + 1) 73 [tv (.lt x e b)] (.own [tv b, tv e]) ∧ True) (by kernel_rfl) ⟨hw, ok_within d (.lt x e b), trivial⟩ (k _ _ _ _ _)
theorem wh_fn_false_false {x : List Nat} {b : Mine.Tree} {K : List V} {m : Int} (h : (x == n) = false) (hK : K.length + 4 < room) (k : ∀ x4 x5 x6 x7 x8, WW (d + 1) (wst T n (.tup [tv b, .bool false] :: K) (m + 1) x4 x5 x6 x7 x8) Φ) : WW (d + 1) (wst T n ((.tup [tv (.fn x b), .bool false]) :: K) m x4 x5 x6 x7 x8) Φ :=
  have hw : WhilOK G (d + 1) fi__law_where (c__law_where_110 (d + 1)).x (l__law_where_110 (d + 1)).xs (wst T n K (m + 1) (some (.val (.tup [tv (.fn x b), .bool false]))) (some (.val (tv (.fn x b)))) (some (.own [tv b])) x7 x8) .next (wst T n (.tup [tv b, .bool false] :: K) (m + 1) (some (.val (.tup [tv (.fn x b), .bool false]))) (some (.val (tv (.fn x b)))) (some (.own [])) (some (.val (tv b))) (some (.val (.bool false)))) :=
    (whil_go false (ρ := (wst T n K (m + 1) (some (.val (.tup [tv (.fn x b), .bool false]))) (some (.val (tv (.fn x b)))) (some (.own [tv b])) x7 x8)) (ρ' := (wst T n (.tup [tv b, .bool false] :: K) (m + 1) (some (.val (.tup [tv (.fn x b), .bool false]))) (some (.val (tv (.fn x b)))) (some (.own [])) (some (.val (tv b))) (some (.val (.bool false))))) (tp := [.b false]) (by kernel_rfl) (P := ((K : List V).length < room) ∧ (x == n) = false ∧ True) (by kernel_rfl) ⟨by (try simp only [List.length_cons]); omega, h, trivial⟩ (whil_end false (tp := []) (by kernel_rfl) (P := True) (by kernel_rfl) trivial))
  whp_go false (tp := [.r (.own [tv b]), .l .next (wst T n (.tup [tv b, .bool false] :: K) (m + 1) (some (.val (.tup [tv (.fn x b), .bool false]))) (some (.val (tv (.fn x b)))) (some (.own [])) (some (.val (tv b))) (some (.val (.bool false))))]) (ρ' := (wst T n (.tup [tv b, .bool false] :: K) (m + 1) (some (.val (.tup [tv (.fn x b), .bool false]))) (some (.val (tv (.fn x b)))) (some (.own [])) (some (.val (tv b))) (some (.val (.bool false))))) (by kernel_rfl) (P := WhilOK G (d + 1) fi__law_where (c__law_where_110 (d + 1)).x (l__law_where_110 (d + 1)).xs (wst T n K (m + 1) (some (.val (.tup [tv (.fn x b), .bool false]))) (some (.val (tv (.fn x b)))) (some (.own [tv b])) x7 x8) .next (wst T n (.tup [tv b, .bool false] :: K) (m + 1) (some (.val (.tup [tv (.fn x b), .bool false]))) (some (.val (tv (.fn x b)))) (some (.own [])) (some (.val (tv b))) (some (.val (.bool false)))) ∧ CallOK G (d + 1) 73 [tv (.fn x b)] (.own [tv b]) ∧ True) (by kernel_rfl) ⟨hw, ok_within d (.fn x b), trivial⟩ (k _ _ _ _ _)
theorem wh_lt_false_false {x : List Nat} {e b : Mine.Tree} {K : List V} {m : Int} (h : (x == n) = false) (hK : K.length + 4 < room) (k : ∀ x4 x5 x6 x7 x8, WW (d + 1) (wst T n (.tup [tv e, .bool false] :: (.tup [tv b, .bool false] :: K)) (m + 1) x4 x5 x6 x7 x8) Φ) : WW (d + 1) (wst T n ((.tup [tv (.lt x e b), .bool false]) :: K) m x4 x5 x6 x7 x8) Φ :=
  have hw : WhilOK G (d + 1) fi__law_where (c__law_where_110 (d + 1)).x (l__law_where_110 (d + 1)).xs (wst T n K (m + 1) (some (.val (.tup [tv (.lt x e b), .bool false]))) (some (.val (tv (.lt x e b)))) (some (.own [tv b, tv e])) x7 x8) .next (wst T n (.tup [tv e, .bool (x == n)] :: (.tup [tv b, .bool (x == n)] :: K)) (m + 1) (some (.val (.tup [tv (.lt x e b), .bool false]))) (some (.val (tv (.lt x e b)))) (some (.own [])) (some (.val (tv e))) (some (.val (.bool (x == n))))) :=
    (whil_go false (ρ := (wst T n K (m + 1) (some (.val (.tup [tv (.lt x e b), .bool false]))) (some (.val (tv (.lt x e b)))) (some (.own [tv b, tv e])) x7 x8)) (ρ' := (wst T n (.tup [tv b, .bool (x == n)] :: K) (m + 1) (some (.val (.tup [tv (.lt x e b), .bool false]))) (some (.val (tv (.lt x e b)))) (some (.own [tv e])) (some (.val (tv b))) (some (.val (.bool (x == n)))))) (tp := [.b false, .b false]) (by kernel_rfl) (P := ((K : List V).length < room) ∧ (x == n) = false ∧ false = false ∧ True) (by kernel_rfl) ⟨by (try simp only [List.length_cons]); omega, h, rfl, trivial⟩ (whil_go false (ρ := (wst T n (.tup [tv b, .bool (x == n)] :: K) (m + 1) (some (.val (.tup [tv (.lt x e b), .bool false]))) (some (.val (tv (.lt x e b)))) (some (.own [tv e])) (some (.val (tv b))) (some (.val (.bool (x == n)))))) (ρ' := (wst T n (.tup [tv e, .bool (x == n)] :: (.tup [tv b, .bool (x == n)] :: K)) (m + 1) (some (.val (.tup [tv (.lt x e b), .bool false]))) (some (.val (tv (.lt x e b)))) (some (.own [])) (some (.val (tv e))) (some (.val (.bool (x == n)))))) (tp := [.b false, .b false]) (by kernel_rfl) (P := (((.tup [tv b, .bool (x == n)] :: K) : List V).length < room) ∧ (x == n) = false ∧ false = false ∧ True) (by kernel_rfl) ⟨by (try simp only [List.length_cons]); omega, h, rfl, trivial⟩ (whil_end false (tp := []) (by kernel_rfl) (P := True) (by kernel_rfl) trivial)))
  whp_go false (tp := [.r (.own [tv b, tv e]), .l .next (wst T n (.tup [tv e, .bool (x == n)] :: (.tup [tv b, .bool (x == n)] :: K)) (m + 1) (some (.val (.tup [tv (.lt x e b), .bool false]))) (some (.val (tv (.lt x e b)))) (some (.own [])) (some (.val (tv e))) (some (.val (.bool (x == n)))))]) (ρ' := (wst T n (.tup [tv e, .bool (x == n)] :: (.tup [tv b, .bool (x == n)] :: K)) (m + 1) (some (.val (.tup [tv (.lt x e b), .bool false]))) (some (.val (tv (.lt x e b)))) (some (.own [])) (some (.val (tv e))) (some (.val (.bool (x == n)))))) (by kernel_rfl) (P := WhilOK G (d + 1) fi__law_where (c__law_where_110 (d + 1)).x (l__law_where_110 (d + 1)).xs (wst T n K (m + 1) (some (.val (.tup [tv (.lt x e b), .bool false]))) (some (.val (tv (.lt x e b)))) (some (.own [tv b, tv e])) x7 x8) .next (wst T n (.tup [tv e, .bool (x == n)] :: (.tup [tv b, .bool (x == n)] :: K)) (m + 1) (some (.val (.tup [tv (.lt x e b), .bool false]))) (some (.val (tv (.lt x e b)))) (some (.own [])) (some (.val (tv e))) (some (.val (.bool (x == n))))) ∧ CallOK G (d + 1) 73 [tv (.lt x e b)] (.own [tv b, tv e]) ∧ True) (by kernel_rfl) ⟨hw, ok_within d (.lt x e b), trivial⟩ (by rw [h]; exact k _ _ _ _ _)
theorem wh_all (t : Mine.Tree) : ∀ {b : Bool} {K : List V} {m : Int} {x4 x5 x6 x7 x8 : Option O}, K.length + 4 * sz t < room → (fwh n t b = none → ∀ m' : Int, m' = m + sz t → ∀ x4 x5 x6 x7 x8, WW (d + 1) (wst T n K m' x4 x5 x6 x7 x8) Φ) → (∀ o, fwh n t b = some o → ∀ (m' : Int) (ρ : Loc), m' = m + o → Φ (.ret (.val (.int m'))) ρ) → WW (d + 1) (wst T n (.tup [tv t, .bool b] :: K) m x4 x5 x6 x7 x8) Φ := by
  induction t with
  | num i =>
    intro b K m x4 x5 x6 x7 x8 hK h0 h1
    have hs : 4 * sz (.num i) = 4 := rfl
    rw [hs] at hK
    cases b with
    | true => exact wh_num_true hK fun _ _ _ _ _ => h0 rfl _ rfl _ _ _ _ _
    | false => exact wh_num_false hK fun _ _ _ _ _ => h0 rfl _ rfl _ _ _ _ _
  | name x =>
    intro b K m x4 x5 x6 x7 x8 hK h0 h1
    have hs : 4 * sz (.name x) = 4 := rfl
    rw [hs] at hK
    have e : fwh n (.name x) b = Bool.casesOn (x == n) none (Bool.casesOn b (some 0) none) := rfl
    rw [e] at h0 h1
    cases h : x == n with
    | true =>
      rw [h] at h0 h1
      cases b with
      | true => exact wh_name1_true h hK fun _ _ _ _ _ => h0 rfl _ rfl _ _ _ _ _
      | false => exact wh_found h fun ρ => h1 0 rfl _ ρ (by omega)
    | false =>
      rw [h] at h0
      cases b with
      | true => exact wh_name0_true h hK fun _ _ _ _ _ => h0 rfl _ rfl _ _ _ _ _
      | false => exact wh_name0_false h hK fun _ _ _ _ _ => h0 rfl _ rfl _ _ _ _ _
  | fn x b' ib =>
    intro b K m x4 x5 x6 x7 x8 hK h0 h1
    have hs : sz (.fn x b') = sz b' + 1 := rfl
    rw [hs] at hK h0
    have := sz_pos b'
    have e : fwh n (.fn x b') b = (fwh n b' (b || x == n)).map (· + 1) := rfl
    rw [e] at h0 h1
    have go : ∀ {x4 x5 x6 x7 x8 : Option O}, WW (d + 1) (wst T n (.tup [tv b', .bool (b || x == n)] :: K) (m + 1) x4 x5 x6 x7 x8) Φ := ib (by omega) (fun q m' e' => h0 (by rw [q]; rfl) m' (by omega)) fun o q m' ρ e' => h1 (o + 1) (by rw [q]; rfl) m' ρ (by omega)
    cases b with
    | true => exact wh_fn_true (by omega) fun _ _ _ _ _ => go
    | false =>
      cases h : x == n with
      | true => rw [h] at go; exact wh_fn_false_true h (by omega) fun _ _ _ _ _ => go
      | false => rw [h] at go; exact wh_fn_false_false h (by omega) fun _ _ _ _ _ => go
  | call a c ia ic =>
    intro b K m x4 x5 x6 x7 x8 hK h0 h1
    have hs : sz (.call a c) = sz a + sz c + 1 := rfl
    rw [hs] at hK h0
    have := sz_pos a; have := sz_pos c
    have e : fwh n (.call a c) b = ((fwh n a b).map (· + 1)).or ((fwh n c b).map (· + (1 + sz a))) := rfl
    rw [e] at h0 h1
    have go : ∀ {x4 x5 x6 x7 x8 : Option O}, WW (d + 1) (wst T n (.tup [tv a, .bool b] :: .tup [tv c, .bool b] :: K) (m + 1) x4 x5 x6 x7 x8) Φ :=
      ia (by rw [List.length_cons]; omega) (fun q m' e' _ _ _ _ _ => ic (by omega) (fun q2 m2 e2 => h0 (by rw [q, q2]; rfl) m2 (by omega)) fun o q2 m2 ρ e2 => h1 (o + (1 + sz a)) (by rw [q, q2]; rfl) m2 ρ (by omega)) fun o q m' ρ e' => h1 (o + 1) (by rw [q]; rfl) m' ρ (by omega)
    cases b with
    | true => exact wh_call_true (by omega) fun _ _ _ _ _ => go
    | false => exact wh_call_false (by omega) fun _ _ _ _ _ => go
  | plus a c ia ic =>
    intro b K m x4 x5 x6 x7 x8 hK h0 h1
    have hs : sz (.plus a c) = sz a + sz c + 1 := rfl
    rw [hs] at hK h0
    have := sz_pos a; have := sz_pos c
    have e : fwh n (.plus a c) b = ((fwh n a b).map (· + 1)).or ((fwh n c b).map (· + (1 + sz a))) := rfl
    rw [e] at h0 h1
    have go : ∀ {x4 x5 x6 x7 x8 : Option O}, WW (d + 1) (wst T n (.tup [tv a, .bool b] :: .tup [tv c, .bool b] :: K) (m + 1) x4 x5 x6 x7 x8) Φ :=
      ia (by rw [List.length_cons]; omega) (fun q m' e' _ _ _ _ _ => ic (by omega) (fun q2 m2 e2 => h0 (by rw [q, q2]; rfl) m2 (by omega)) fun o q2 m2 ρ e2 => h1 (o + (1 + sz a)) (by rw [q, q2]; rfl) m2 ρ (by omega)) fun o q m' ρ e' => h1 (o + 1) (by rw [q]; rfl) m' ρ (by omega)
    cases b with
    | true => exact wh_plus_true (by omega) fun _ _ _ _ _ => go
    | false => exact wh_plus_false (by omega) fun _ _ _ _ _ => go
  | less a c ia ic =>
    intro b K m x4 x5 x6 x7 x8 hK h0 h1
    have hs : sz (.less a c) = sz a + sz c + 1 := rfl
    rw [hs] at hK h0
    have := sz_pos a; have := sz_pos c
    have e : fwh n (.less a c) b = ((fwh n a b).map (· + 1)).or ((fwh n c b).map (· + (1 + sz a))) := rfl
    rw [e] at h0 h1
    have go : ∀ {x4 x5 x6 x7 x8 : Option O}, WW (d + 1) (wst T n (.tup [tv a, .bool b] :: .tup [tv c, .bool b] :: K) (m + 1) x4 x5 x6 x7 x8) Φ :=
      ia (by rw [List.length_cons]; omega) (fun q m' e' _ _ _ _ _ => ic (by omega) (fun q2 m2 e2 => h0 (by rw [q, q2]; rfl) m2 (by omega)) fun o q2 m2 ρ e2 => h1 (o + (1 + sz a)) (by rw [q, q2]; rfl) m2 ρ (by omega)) fun o q m' ρ e' => h1 (o + 1) (by rw [q]; rfl) m' ρ (by omega)
    cases b with
    | true => exact wh_less_true (by omega) fun _ _ _ _ _ => go
    | false => exact wh_less_false (by omega) fun _ _ _ _ _ => go
  | ite a c f ia ic jf =>
    intro b K m x4 x5 x6 x7 x8 hK h0 h1
    have hs : sz (.ite a c f) = sz a + sz c + sz f + 1 := rfl
    rw [hs] at hK h0
    have := sz_pos a; have := sz_pos c; have := sz_pos f
    have e : fwh n (.ite a c f) b = ((fwh n a b).map (· + 1)).or (((fwh n c b).map (· + (1 + sz a))).or ((fwh n f b).map (· + (1 + sz a + sz c)))) := rfl
    rw [e] at h0 h1
    have go : ∀ {x4 x5 x6 x7 x8 : Option O}, WW (d + 1) (wst T n (.tup [tv a, .bool b] :: .tup [tv c, .bool b] :: .tup [tv f, .bool b] :: K) (m + 1) x4 x5 x6 x7 x8) Φ :=
      ia (by simp only [List.length_cons]; omega) (fun q m' e' _ _ _ _ _ => ic (by rw [List.length_cons]; omega) (fun q2 m2 e2 _ _ _ _ _ => jf (by omega) (fun q3 m3 e3 => h0 (by rw [q, q2, q3]; rfl) m3 (by omega)) fun o q3 m3 ρ e3 => h1 (o + (1 + sz a + sz c)) (by rw [q, q2, q3]; rfl) m3 ρ (by omega)) fun o q2 m2 ρ e2 => h1 (o + (1 + sz a)) (by rw [q, q2]; rfl) m2 ρ (by omega)) fun o q m' ρ e' => h1 (o + 1) (by rw [q]; rfl) m' ρ (by omega)
    cases b with
    | true => exact wh_ite_true (by omega) fun _ _ _ _ _ => go
    | false => exact wh_ite_false (by omega) fun _ _ _ _ _ => go
  | lt x a c ia ic =>
    intro b K m x4 x5 x6 x7 x8 hK h0 h1
    have hs : sz (.lt x a c) = sz a + sz c + 1 := rfl
    rw [hs] at hK h0
    have := sz_pos a; have := sz_pos c
    have e : fwh n (.lt x a c) b = ((fwh n a b).map (· + 1)).or ((fwh n c (b || x == n)).map (· + (1 + sz a))) := rfl
    rw [e] at h0 h1
    have go : ∀ {x4 x5 x6 x7 x8 : Option O}, WW (d + 1) (wst T n (.tup [tv a, .bool b] :: .tup [tv c, .bool (b || x == n)] :: K) (m + 1) x4 x5 x6 x7 x8) Φ :=
      ia (by rw [List.length_cons]; omega) (fun q m' e' _ _ _ _ _ => ic (by omega) (fun q2 m2 e2 => h0 (by rw [q, q2]; rfl) m2 (by omega)) fun o q2 m2 ρ e2 => h1 (o + (1 + sz a)) (by rw [q, q2]; rfl) m2 ρ (by omega)) fun o q m' ρ e' => h1 (o + 1) (by rw [q]; rfl) m' ρ (by omega)
    cases b with
    | true => exact wh_lt_true (by omega) fun _ _ _ _ _ => go
    | false =>
      cases h : x == n with
      | true => rw [h] at go; exact wh_lt_false_true h (by omega) fun _ _ _ _ _ => go
      | false => rw [h] at go; exact wh_lt_false_false h (by omega) fun _ _ _ _ _ => go
noncomputable def whv (n : List Nat) (t : Mine.Tree) : Int := Option.casesOn (fwh n t false) (-1) fun o => (o : Int)
theorem ok_where (t : Mine.Tree) (hz : 4 * sz t < room) : CallOK G (d + 2) 80 [tv t, .str n] (.val (.int (whv n t))) := by
  obtain ⟨fl, ρ, hw, hΦ⟩ := wh_all (d := d) (T := tv t) (n := n) (Φ := fun fl ρ => (fl = .ret (.val (.int (whv n t)))) ∨ (fl = .next ∧ whv n t = -1 ∧ ∃ m x4 x5 x6 x7 x8, ρ = wst (tv t) n [] m x4 x5 x6 x7 x8)) t (b := false) (K := []) (m := 0) (x4 := none) (x5 := none) (x6 := none) (x7 := none) (x8 := none) (by simpa using hz)
    (fun q m' e x4 x5 x6 x7 x8 => whp_end false (tp := []) (ρ' := wst (tv t) n [] m' x4 x5 x6 x7 x8) (by kernel_rfl) (P := True) (by kernel_rfl) trivial (.inr ⟨rfl, by unfold whv; rw [q], m', x4, x5, x6, x7, x8, rfl⟩))
    (fun o q m' ρ e => .inl (by unfold whv; rw [q, e, Int.zero_add]))
  rcases hΦ with rfl | ⟨rfl, hv, m, x4, x5, x6, x7, x8, rfl⟩
  · exact call_go (n := 7) (tp := [.l (.ret (.val (.int (whv n t)))) ρ]) (b__law_where (d + 1)) rfl (b__law_where_x (d + 1)) rfl (by kernel_rfl) (P := WhilOK G (d + 1) fi__law_where (c__law_where_103 (d + 1)).x (l__law_where_103 (d + 1)).xs (wst (tv t) n [.tup [tv t, .bool false]] 0 none none none none none) (.ret (.val (.int (whv n t)))) ρ ∧ True) (by kernel_rfl) ⟨hw, trivial⟩
  · rw [hv]
    exact call_go (n := 7) (tp := [.l .next (wst (tv t) n [] m x4 x5 x6 x7 x8)]) (b__law_where (d + 1)) rfl (b__law_where_x (d + 1)) rfl (by kernel_rfl) (P := WhilOK G (d + 1) fi__law_where (c__law_where_103 (d + 1)).x (l__law_where_103 (d + 1)).xs (wst (tv t) n [.tup [tv t, .bool false]] 0 none none none none none) .next (wst (tv t) n [] m x4 x5 x6 x7 x8) ∧ True) (by kernel_rfl) ⟨hw, trivial⟩
end
theorem dpt_tv (t : Mine.Tree) : dpt (tv t) ≤ sz t := by
  have d2 : ∀ l, dpt (.tup l) = dpts l + 1 := fun _ => rfl
  have dc : ∀ v l, dpts (v :: l) = max (dpt v) (dpts l) := fun _ _ => rfl
  have dn : dpts [] = 0 := rfl
  have ds : ∀ z, dpt (.str z) = 0 := fun _ => rfl
  have di : ∀ z, dpt (.int z) = 0 := fun _ => rfl
  induction t with
  | num i => show dpts [.str z_num, .int i] + 1 ≤ 1; rw [dc, dc, dn, ds, di]; decide
  | name x => show dpts [.str z_name, .str x] + 1 ≤ 1; rw [dc, dc, dn, ds, ds]; decide
  | fn x b ib => show dpts [.str z_fun, .str x, tv b] + 1 ≤ sz b + 1; rw [dc, dc, dc, dn, ds, ds]; omega
  | call a b ia ib => show dpts [.str z_call, tv a, tv b] + 1 ≤ sz a + sz b + 1; rw [dc, dc, dc, dn, ds]; omega
  | plus a b ia ib => show dpts [.str z_plus, tv a, tv b] + 1 ≤ sz a + sz b + 1; rw [dc, dc, dc, dn, ds]; omega
  | less a b ia ib => show dpts [.str z_less, tv a, tv b] + 1 ≤ sz a + sz b + 1; rw [dc, dc, dc, dn, ds]; omega
  | ite c a b ic ia ib => show dpts [.str z_if, tv c, tv a, tv b] + 1 ≤ sz c + sz a + sz b + 1; rw [dc, dc, dc, dc, dn, ds]; omega
  | lt x e b ie ib => show dpts [.str z_let, .str x, tv e, tv b] + 1 ≤ sz e + sz b + 1; rw [dc, dc, dc, dc, dn, ds, ds]; omega
section
variable {d : Nat} {T : V} {Φ : Fl → Loc → Prop} {x3 x4 x5 x6 : Option O}
noncomputable abbrev rst (T : V) (K : List V) (m : Int) (x3 x4 x5 x6 : Option O) : Loc := [some (.val T), some (.own K), some (.val (.int m)), x3, x4, x5, x6]
abbrev RW (d : Nat) (ρ : Loc) (Φ : Fl → Loc → Prop) : Prop := WhP (c__law_parts_right_119 d) (l__law_parts_right_119 d) ρ Φ
theorem rt_0 {nd : V} {K : List V} {m : Int} (hp : CallOK G (d + 1) 21 [nd] (.own [])) (hw : CallOK G (d + 1) 73 [nd] (.own []))  (hK : K.length + 4 < room) (k : ∀ x3 x4 x5 x6, RW (d + 1) (rst T (K) (m + 1) x3 x4 x5 x6) Φ) : RW (d + 1) (rst T (nd :: K) m x3 x4 x5 x6) Φ :=
  have hf : ForOK G (d + 1) fi__law_parts_right (.Name "_law_k" ⟨126,12,126,18⟩) (l__law_parts_right_126 (d + 1)).xs [] (rst T K (m + 1) (some (.val nd)) (some (.own [])) (some (.own [])) x6) .next (rst T K (m + 1) (some (.val nd)) (some (.own [])) (some (.own [])) x6) :=
    for_nil
  whp_go false (tp := [.r (.own []), .r (.own []), .l .next (rst T K (m + 1) (some (.val nd)) (some (.own [])) (some (.own [])) x6)]) (ρ' := (rst T (K) (m + 1) (some (.val nd)) (some (.val (.lst []))) (some (.own [])) x6)) (by kernel_rfl) (P := (0 + K.length < room) ∧ ForOK G (d + 1) fi__law_parts_right (.Name "_law_k" ⟨126,12,126,18⟩) (l__law_parts_right_126 (d + 1)).xs [] (rst T K (m + 1) (some (.val nd)) (some (.own [])) (some (.own [])) x6) .next (rst T K (m + 1) (some (.val nd)) (some (.own [])) (some (.own [])) x6) ∧ (0 ≤ 1000000) ∧ CallOK G (d + 1) 21 [nd] (.own []) ∧ CallOK G (d + 1) 73 [nd] (.own []) ∧ True) (by kernel_rfl) ⟨by omega, hf, by decide, hp, hw, trivial⟩ (k _ _ _ _)
theorem rt_1 {nd : V} {l0 : List V} {K : List V} {m : Int} (hp : CallOK G (d + 1) 21 [nd] (.own [.tup l0])) (hw : CallOK G (d + 1) 73 [nd] (.own [.tup l0])) (h0 : dpt (.tup l0) ≤ 1900) (hK : K.length + 4 < room) (k : ∀ x3 x4 x5 x6, RW (d + 1) (rst T (.tup l0 :: K) (m + 1) x3 x4 x5 x6) Φ) : RW (d + 1) (rst T (nd :: K) m x3 x4 x5 x6) Φ :=
  have hf : ForOK G (d + 1) fi__law_parts_right (.Name "_law_k" ⟨126,12,126,18⟩) (l__law_parts_right_126 (d + 1)).xs [.int 0] (rst T K (m + 1) (some (.val nd)) (some (.own [.tup l0])) (some (.own [.tup l0])) x6) .next (rst T K (m + 1) (some (.val nd)) (some (.own [.tup l0])) (some (.own [.tup l0])) (some (.val (.int 0)))) :=
    (for_go (i := 6) (v := .int 0) (l := []) (ρ := (rst T K (m + 1) (some (.val nd)) (some (.own [.tup l0])) (some (.own [.tup l0])) x6)) (ρ' := (rst T K (m + 1) (some (.val nd)) (some (.own [.tup l0])) (some (.own [.tup l0])) (some (.val (.int 0))))) (tp := []) (by kernel_rfl) (by kernel_rfl) (P := ((V.tup l0) = (V.tup l0) ∧ dpt (.tup l0) ≤ 1900) ∧ True) (by kernel_rfl) ⟨⟨rfl, h0⟩, trivial⟩ for_nil)
  whp_go false (tp := [.r (.own [.tup l0]), .r (.own [.tup l0]), .l .next (rst T K (m + 1) (some (.val nd)) (some (.own [.tup l0])) (some (.own [.tup l0])) (some (.val (.int 0))))]) (ρ' := (rst T (.tup l0 :: K) (m + 1) (some (.val nd)) (some (.val (.lst [.tup l0]))) (some (.own [.tup l0])) (some (.val (.int 0))))) (by kernel_rfl) (P := (1 + K.length < room) ∧ ForOK G (d + 1) fi__law_parts_right (.Name "_law_k" ⟨126,12,126,18⟩) (l__law_parts_right_126 (d + 1)).xs [.int 0] (rst T K (m + 1) (some (.val nd)) (some (.own [.tup l0])) (some (.own [.tup l0])) x6) .next (rst T K (m + 1) (some (.val nd)) (some (.own [.tup l0])) (some (.own [.tup l0])) (some (.val (.int 0)))) ∧ (1 ≤ 1000000) ∧ CallOK G (d + 1) 21 [nd] (.own [.tup l0]) ∧ CallOK G (d + 1) 73 [nd] (.own [.tup l0]) ∧ True) (by kernel_rfl) ⟨by omega, hf, by decide, hp, hw, trivial⟩ (k _ _ _ _)
theorem rt_2 {nd : V} {l0 l1 : List V} {K : List V} {m : Int} (hp : CallOK G (d + 1) 21 [nd] (.own [.tup l1, .tup l0])) (hw : CallOK G (d + 1) 73 [nd] (.own [.tup l1, .tup l0])) (h0 : dpt (.tup l0) ≤ 1900) (h1 : dpt (.tup l1) ≤ 1900) (hK : K.length + 4 < room) (k : ∀ x3 x4 x5 x6, RW (d + 1) (rst T (.tup l1 :: .tup l0 :: K) (m + 1) x3 x4 x5 x6) Φ) : RW (d + 1) (rst T (nd :: K) m x3 x4 x5 x6) Φ :=
  have hf : ForOK G (d + 1) fi__law_parts_right (.Name "_law_k" ⟨126,12,126,18⟩) (l__law_parts_right_126 (d + 1)).xs [.int 0, .int 1] (rst T K (m + 1) (some (.val nd)) (some (.own [.tup l1, .tup l0])) (some (.own [.tup l1, .tup l0])) x6) .next (rst T K (m + 1) (some (.val nd)) (some (.own [.tup l1, .tup l0])) (some (.own [.tup l1, .tup l0])) (some (.val (.int 1)))) :=
    (for_go (i := 6) (v := .int 0) (l := [.int 1]) (ρ := (rst T K (m + 1) (some (.val nd)) (some (.own [.tup l1, .tup l0])) (some (.own [.tup l1, .tup l0])) x6)) (ρ' := (rst T K (m + 1) (some (.val nd)) (some (.own [.tup l1, .tup l0])) (some (.own [.tup l1, .tup l0])) (some (.val (.int 0))))) (tp := []) (by kernel_rfl) (by kernel_rfl) (P := ((V.tup l0) = (V.tup l0) ∧ dpt (.tup l0) ≤ 1900) ∧ True) (by kernel_rfl) ⟨⟨rfl, h0⟩, trivial⟩ (for_go (i := 6) (v := .int 1) (l := []) (ρ := (rst T K (m + 1) (some (.val nd)) (some (.own [.tup l1, .tup l0])) (some (.own [.tup l1, .tup l0])) (some (.val (.int 0))))) (ρ' := (rst T K (m + 1) (some (.val nd)) (some (.own [.tup l1, .tup l0])) (some (.own [.tup l1, .tup l0])) (some (.val (.int 1))))) (tp := []) (by kernel_rfl) (by kernel_rfl) (P := ((V.tup l1) = (V.tup l1) ∧ dpt (.tup l1) ≤ 1900) ∧ True) (by kernel_rfl) ⟨⟨rfl, h1⟩, trivial⟩ for_nil))
  whp_go false (tp := [.r (.own [.tup l1, .tup l0]), .r (.own [.tup l1, .tup l0]), .l .next (rst T K (m + 1) (some (.val nd)) (some (.own [.tup l1, .tup l0])) (some (.own [.tup l1, .tup l0])) (some (.val (.int 1))))]) (ρ' := (rst T (.tup l1 :: .tup l0 :: K) (m + 1) (some (.val nd)) (some (.val (.lst [.tup l0, .tup l1]))) (some (.own [.tup l1, .tup l0])) (some (.val (.int 1))))) (by kernel_rfl) (P := (2 + K.length < room) ∧ ForOK G (d + 1) fi__law_parts_right (.Name "_law_k" ⟨126,12,126,18⟩) (l__law_parts_right_126 (d + 1)).xs [.int 0, .int 1] (rst T K (m + 1) (some (.val nd)) (some (.own [.tup l1, .tup l0])) (some (.own [.tup l1, .tup l0])) x6) .next (rst T K (m + 1) (some (.val nd)) (some (.own [.tup l1, .tup l0])) (some (.own [.tup l1, .tup l0])) (some (.val (.int 1)))) ∧ (2 ≤ 1000000) ∧ CallOK G (d + 1) 21 [nd] (.own [.tup l1, .tup l0]) ∧ CallOK G (d + 1) 73 [nd] (.own [.tup l1, .tup l0]) ∧ True) (by kernel_rfl) ⟨by omega, hf, by decide, hp, hw, trivial⟩ (k _ _ _ _)
theorem rt_3 {nd : V} {l0 l1 l2 : List V} {K : List V} {m : Int} (hp : CallOK G (d + 1) 21 [nd] (.own [.tup l2, .tup l1, .tup l0])) (hw : CallOK G (d + 1) 73 [nd] (.own [.tup l2, .tup l1, .tup l0])) (h0 : dpt (.tup l0) ≤ 1900) (h1 : dpt (.tup l1) ≤ 1900) (h2 : dpt (.tup l2) ≤ 1900) (hK : K.length + 4 < room) (k : ∀ x3 x4 x5 x6, RW (d + 1) (rst T (.tup l2 :: .tup l1 :: .tup l0 :: K) (m + 1) x3 x4 x5 x6) Φ) : RW (d + 1) (rst T (nd :: K) m x3 x4 x5 x6) Φ :=
  have hf : ForOK G (d + 1) fi__law_parts_right (.Name "_law_k" ⟨126,12,126,18⟩) (l__law_parts_right_126 (d + 1)).xs [.int 0, .int 1, .int 2] (rst T K (m + 1) (some (.val nd)) (some (.own [.tup l2, .tup l1, .tup l0])) (some (.own [.tup l2, .tup l1, .tup l0])) x6) .next (rst T K (m + 1) (some (.val nd)) (some (.own [.tup l2, .tup l1, .tup l0])) (some (.own [.tup l2, .tup l1, .tup l0])) (some (.val (.int 2)))) :=
    (for_go (i := 6) (v := .int 0) (l := [.int 1, .int 2]) (ρ := (rst T K (m + 1) (some (.val nd)) (some (.own [.tup l2, .tup l1, .tup l0])) (some (.own [.tup l2, .tup l1, .tup l0])) x6)) (ρ' := (rst T K (m + 1) (some (.val nd)) (some (.own [.tup l2, .tup l1, .tup l0])) (some (.own [.tup l2, .tup l1, .tup l0])) (some (.val (.int 0))))) (tp := []) (by kernel_rfl) (by kernel_rfl) (P := ((V.tup l0) = (V.tup l0) ∧ dpt (.tup l0) ≤ 1900) ∧ True) (by kernel_rfl) ⟨⟨rfl, h0⟩, trivial⟩ (for_go (i := 6) (v := .int 1) (l := [.int 2]) (ρ := (rst T K (m + 1) (some (.val nd)) (some (.own [.tup l2, .tup l1, .tup l0])) (some (.own [.tup l2, .tup l1, .tup l0])) (some (.val (.int 0))))) (ρ' := (rst T K (m + 1) (some (.val nd)) (some (.own [.tup l2, .tup l1, .tup l0])) (some (.own [.tup l2, .tup l1, .tup l0])) (some (.val (.int 1))))) (tp := []) (by kernel_rfl) (by kernel_rfl) (P := ((V.tup l1) = (V.tup l1) ∧ dpt (.tup l1) ≤ 1900) ∧ True) (by kernel_rfl) ⟨⟨rfl, h1⟩, trivial⟩ (for_go (i := 6) (v := .int 2) (l := []) (ρ := (rst T K (m + 1) (some (.val nd)) (some (.own [.tup l2, .tup l1, .tup l0])) (some (.own [.tup l2, .tup l1, .tup l0])) (some (.val (.int 1))))) (ρ' := (rst T K (m + 1) (some (.val nd)) (some (.own [.tup l2, .tup l1, .tup l0])) (some (.own [.tup l2, .tup l1, .tup l0])) (some (.val (.int 2))))) (tp := []) (by kernel_rfl) (by kernel_rfl) (P := ((V.tup l2) = (V.tup l2) ∧ dpt (.tup l2) ≤ 1900) ∧ True) (by kernel_rfl) ⟨⟨rfl, h2⟩, trivial⟩ for_nil)))
  whp_go false (tp := [.r (.own [.tup l2, .tup l1, .tup l0]), .r (.own [.tup l2, .tup l1, .tup l0]), .l .next (rst T K (m + 1) (some (.val nd)) (some (.own [.tup l2, .tup l1, .tup l0])) (some (.own [.tup l2, .tup l1, .tup l0])) (some (.val (.int 2))))]) (ρ' := (rst T (.tup l2 :: .tup l1 :: .tup l0 :: K) (m + 1) (some (.val nd)) (some (.val (.lst [.tup l0, .tup l1, .tup l2]))) (some (.own [.tup l2, .tup l1, .tup l0])) (some (.val (.int 2))))) (by kernel_rfl) (P := (3 + K.length < room) ∧ ForOK G (d + 1) fi__law_parts_right (.Name "_law_k" ⟨126,12,126,18⟩) (l__law_parts_right_126 (d + 1)).xs [.int 0, .int 1, .int 2] (rst T K (m + 1) (some (.val nd)) (some (.own [.tup l2, .tup l1, .tup l0])) (some (.own [.tup l2, .tup l1, .tup l0])) x6) .next (rst T K (m + 1) (some (.val nd)) (some (.own [.tup l2, .tup l1, .tup l0])) (some (.own [.tup l2, .tup l1, .tup l0])) (some (.val (.int 2)))) ∧ (3 ≤ 1000000) ∧ CallOK G (d + 1) 21 [nd] (.own [.tup l2, .tup l1, .tup l0]) ∧ CallOK G (d + 1) 73 [nd] (.own [.tup l2, .tup l1, .tup l0]) ∧ True) (by kernel_rfl) ⟨by omega, hf, by decide, hp, hw, trivial⟩ (k _ _ _ _)
theorem rt_all (t : Mine.Tree) : ∀ {K : List V} {m : Int} {x3 x4 x5 x6 : Option O}, K.length + 4 * sz t < room → sz t ≤ 1900 → (∀ m' : Int, m' = m + sz t → ∀ x3 x4 x5 x6, RW (d + 1) (rst T K m' x3 x4 x5 x6) Φ) → RW (d + 1) (rst T (tv t :: K) m x3 x4 x5 x6) Φ := by
  induction t with
  | num i  =>
    intro K m x3 x4 x5 x6 hK hd k
    have hs : sz (.num i) = 1 := rfl
    rw [hs] at hK hd k
    have z1 : CallOK G (d + 1) 21 [tv (.num i)] (.own []) := ok_parts d (.num i)
    have z2 : CallOK G (d + 1) 73 [tv (.num i)] (.own []) := ok_within d (.num i)
    exact rt_0 z1 z2  (by omega) fun _ _ _ _ => by exact k _ (by omega) _ _ _ _
  | name x  =>
    intro K m x3 x4 x5 x6 hK hd k
    have hs : sz (.name x) = 1 := rfl
    rw [hs] at hK hd k
    have z1 : CallOK G (d + 1) 21 [tv (.name x)] (.own []) := ok_parts d (.name x)
    have z2 : CallOK G (d + 1) 73 [tv (.name x)] (.own []) := ok_within d (.name x)
    exact rt_0 z1 z2  (by omega) fun _ _ _ _ => by exact k _ (by omega) _ _ _ _
  | fn x b ib =>
    intro K m x3 x4 x5 x6 hK hd k
    have hs : sz (.fn x b) = sz b + 1 := rfl
    rw [hs] at hK hd k
    have hb := sz_pos b; have db := dpt_tv b; obtain ⟨lb, eb⟩ := tv_tup b
    have z1 : CallOK G (d + 1) 21 [tv (.fn x b)] (.own [tv b]) := ok_parts d (.fn x b)
    have z2 : CallOK G (d + 1) 73 [tv (.fn x b)] (.own [tv b]) := ok_within d (.fn x b)
    rw [eb] at z1 z2
    exact rt_1 z1 z2 (by rw [← eb]; omega) (by omega) fun _ _ _ _ => by rw [← eb]; exact ib (by (try simp only [List.length_cons]); omega) (by omega) fun nb qb _ _ _ _ => k _ (by omega) _ _ _ _
  | call a b ia ib =>
    intro K m x3 x4 x5 x6 hK hd k
    have hs : sz (.call a b) = sz a + sz b + 1 := rfl
    rw [hs] at hK hd k
    have ha := sz_pos a; have da := dpt_tv a; obtain ⟨la, ea⟩ := tv_tup a
    have hb := sz_pos b; have db := dpt_tv b; obtain ⟨lb, eb⟩ := tv_tup b
    have z1 : CallOK G (d + 1) 21 [tv (.call a b)] (.own [tv b, tv a]) := ok_parts d (.call a b)
    have z2 : CallOK G (d + 1) 73 [tv (.call a b)] (.own [tv b, tv a]) := ok_within d (.call a b)
    rw [ea, eb] at z1 z2
    exact rt_2 z1 z2 (by rw [← ea]; omega) (by rw [← eb]; omega) (by omega) fun _ _ _ _ => by rw [← ea, ← eb]; exact ib (by (try simp only [List.length_cons]); omega) (by omega) fun nb qb _ _ _ _ => ia (by (try simp only [List.length_cons]); omega) (by omega) fun na qa _ _ _ _ => k _ (by omega) _ _ _ _
  | plus a b ia ib =>
    intro K m x3 x4 x5 x6 hK hd k
    have hs : sz (.plus a b) = sz a + sz b + 1 := rfl
    rw [hs] at hK hd k
    have ha := sz_pos a; have da := dpt_tv a; obtain ⟨la, ea⟩ := tv_tup a
    have hb := sz_pos b; have db := dpt_tv b; obtain ⟨lb, eb⟩ := tv_tup b
    have z1 : CallOK G (d + 1) 21 [tv (.plus a b)] (.own [tv b, tv a]) := ok_parts d (.plus a b)
    have z2 : CallOK G (d + 1) 73 [tv (.plus a b)] (.own [tv b, tv a]) := ok_within d (.plus a b)
    rw [ea, eb] at z1 z2
    exact rt_2 z1 z2 (by rw [← ea]; omega) (by rw [← eb]; omega) (by omega) fun _ _ _ _ => by rw [← ea, ← eb]; exact ib (by (try simp only [List.length_cons]); omega) (by omega) fun nb qb _ _ _ _ => ia (by (try simp only [List.length_cons]); omega) (by omega) fun na qa _ _ _ _ => k _ (by omega) _ _ _ _
  | less a b ia ib =>
    intro K m x3 x4 x5 x6 hK hd k
    have hs : sz (.less a b) = sz a + sz b + 1 := rfl
    rw [hs] at hK hd k
    have ha := sz_pos a; have da := dpt_tv a; obtain ⟨la, ea⟩ := tv_tup a
    have hb := sz_pos b; have db := dpt_tv b; obtain ⟨lb, eb⟩ := tv_tup b
    have z1 : CallOK G (d + 1) 21 [tv (.less a b)] (.own [tv b, tv a]) := ok_parts d (.less a b)
    have z2 : CallOK G (d + 1) 73 [tv (.less a b)] (.own [tv b, tv a]) := ok_within d (.less a b)
    rw [ea, eb] at z1 z2
    exact rt_2 z1 z2 (by rw [← ea]; omega) (by rw [← eb]; omega) (by omega) fun _ _ _ _ => by rw [← ea, ← eb]; exact ib (by (try simp only [List.length_cons]); omega) (by omega) fun nb qb _ _ _ _ => ia (by (try simp only [List.length_cons]); omega) (by omega) fun na qa _ _ _ _ => k _ (by omega) _ _ _ _
  | ite c a b ic ia ib =>
    intro K m x3 x4 x5 x6 hK hd k
    have hs : sz (.ite c a b) = sz c + sz a + sz b + 1 := rfl
    rw [hs] at hK hd k
    have hc := sz_pos c; have dc := dpt_tv c; obtain ⟨lc, ec⟩ := tv_tup c
    have ha := sz_pos a; have da := dpt_tv a; obtain ⟨la, ea⟩ := tv_tup a
    have hb := sz_pos b; have db := dpt_tv b; obtain ⟨lb, eb⟩ := tv_tup b
    have z1 : CallOK G (d + 1) 21 [tv (.ite c a b)] (.own [tv b, tv a, tv c]) := ok_parts d (.ite c a b)
    have z2 : CallOK G (d + 1) 73 [tv (.ite c a b)] (.own [tv b, tv a, tv c]) := ok_within d (.ite c a b)
    rw [ec, ea, eb] at z1 z2
    exact rt_3 z1 z2 (by rw [← ec]; omega) (by rw [← ea]; omega) (by rw [← eb]; omega) (by omega) fun _ _ _ _ => by rw [← ec, ← ea, ← eb]; exact ib (by (try simp only [List.length_cons]); omega) (by omega) fun nb qb _ _ _ _ => ia (by (try simp only [List.length_cons]); omega) (by omega) fun na qa _ _ _ _ => ic (by (try simp only [List.length_cons]); omega) (by omega) fun nc qc _ _ _ _ => k _ (by omega) _ _ _ _
  | lt x e b ie ib =>
    intro K m x3 x4 x5 x6 hK hd k
    have hs : sz (.lt x e b) = sz e + sz b + 1 := rfl
    rw [hs] at hK hd k
    have he := sz_pos e; have de := dpt_tv e; obtain ⟨le, ee⟩ := tv_tup e
    have hb := sz_pos b; have db := dpt_tv b; obtain ⟨lb, eb⟩ := tv_tup b
    have z1 : CallOK G (d + 1) 21 [tv (.lt x e b)] (.own [tv b, tv e]) := ok_parts d (.lt x e b)
    have z2 : CallOK G (d + 1) 73 [tv (.lt x e b)] (.own [tv b, tv e]) := ok_within d (.lt x e b)
    rw [ee, eb] at z1 z2
    exact rt_2 z1 z2 (by rw [← ee]; omega) (by rw [← eb]; omega) (by omega) fun _ _ _ _ => by rw [← ee, ← eb]; exact ib (by (try simp only [List.length_cons]); omega) (by omega) fun nb qb _ _ _ _ => ie (by (try simp only [List.length_cons]); omega) (by omega) fun ne qe _ _ _ _ => k _ (by omega) _ _ _ _
theorem ok_right (t : Mine.Tree) (hz : 4 * sz t < room) (hd : sz t ≤ 1900) : CallOK G (d + 2) 87 [tv t] (.val (.int (sz t))) := by
  obtain ⟨fl, ρ, hw, rfl, x3, x4, x5, x6, rfl⟩ := rt_all (d := d) (T := tv t) (Φ := fun fl ρ => fl = .next ∧ ∃ x3 x4 x5 x6, ρ = rst (tv t) [] (sz t) x3 x4 x5 x6) t (K := []) (m := 0) (x3 := none) (x4 := none) (x5 := none) (x6 := none) (by simpa using hz) hd fun m' e x3 x4 x5 x6 => whp_end false (tp := []) (ρ' := rst (tv t) [] m' x3 x4 x5 x6) (by kernel_rfl) (P := True) (by kernel_rfl) trivial ⟨rfl, x3, x4, x5, x6, by rw [e, Int.zero_add]⟩
  exact call_go (n := 6) (tp := [.l .next (rst (tv t) [] (sz t) x3 x4 x5 x6)]) (b__law_parts_right (d + 1)) rfl (b__law_parts_right_x (d + 1)) rfl (by kernel_rfl) (P := WhilOK G (d + 1) fi__law_parts_right (c__law_parts_right_119 (d + 1)).x (l__law_parts_right_119 (d + 1)).xs (rst (tv t) [tv t] 0 none none none none) .next (rst (tv t) [] (sz t) x3 x4 x5 x6) ∧ True) (by kernel_rfl) ⟨hw, trivial⟩
end
end Mine
end

section
open PySem
set_option autoImplicit false
set_option maxRecDepth 100000
namespace Mine
open Mine.L01
noncomputable abbrev gst (C N : V) (S : List V) (x3 x4 x5 x6 x7 x8 : Option O) : Loc := [some (.val C), some (.val N), some (.own S), x3, x4, x5, x6, x7, x8]
noncomputable def szs (ts : List Mine.Tree) : Nat := (ts.map sz).sum
theorem szs_len : ∀ ts : List Mine.Tree, ts.length ≤ szs ts
  | [] => Nat.le_refl _
  | t :: ts => by
    have := szs_len ts
    have := sz_pos t
    show ts.length + 1 ≤ sz t + szs ts
    omega
noncomputable def nmIn (N : List (List Nat)) (t : Mine.Tree) : Prop := Tree.rec (fun _ => True) (fun x => x ∈ N) (fun _ _ b => b) (fun _ _ a b => a ∧ b) (fun _ _ a b => a ∧ b) (fun _ _ a b => a ∧ b) (fun _ _ _ a b c => a ∧ b ∧ c) (fun _ _ _ a b => a ∧ b) t
def Pick (o : O) (i : Int) (v : O) : Prop := (subO o i).bind (fun v => some (O.val v)) = some v
theorem mod_cases (c : Int) (n : Nat) (hn : 0 < n) : ∃ k : Nat, k < n ∧ c % (n : Int) = (k : Int) :=
  ⟨(c % (n : Int)).toNat, by have := Int.emod_lt_of_pos c (b := (n : Int)) (by omega); have := Int.emod_nonneg c (b := (n : Int)) (by omega); omega, by have := Int.emod_nonneg c (b := (n : Int)) (by omega); omega⟩
theorem pickN (x0 : List Nat) (nl : List (List Nat)) (i : Int) : ∃ x, x ∈ x0 :: nl ∧ Pick (.val (.lst (.str x0 :: nl.map .str))) (i % ((V.str x0 :: nl.map V.str).length : Int)) (.val (.str x)) := by
  obtain ⟨k, hk, e1⟩ := mod_cases i (V.str x0 :: nl.map V.str).length (Nat.succ_pos _)
  have e1 : i % ((V.str x0 :: nl.map V.str).length : Int) = Int.ofNat k := e1
  have hl : k < (x0 :: nl).length := by simpa using hk
  refine ⟨(x0 :: nl)[k], List.getElem_mem hl, ?_⟩
  unfold Pick; rw [e1]
  show (((x0 :: nl).map V.str)[k]?).bind _ = _
  rw [List.getElem?_map, List.getElem?_eq_getElem hl]; rfl
section
variable {d : Nat} {C : V} {M : List V} {x0 x y : List Nat} {x3 x4 x5 x6 x7 x8 : Option O}
theorem ok_join6 (a b : V) : CallOK G (d + 1) 61 [.int 6, .str x, a, b] (.val (.tup [.str z_call, .tup [.str z_fun, .str x, a], b])) := call_go (n := 0) (tp := []) (b__law_joined d) rfl (b__law_joined_x d) rfl (by kernel_rfl) (P := True) (by kernel_rfl) trivial
theorem ok_join7 (a b : V) : CallOK G (d + 1) 61 [.int 7, .str x, a, b] (.val (.tup [.str z_plus, a, b])) := call_go (n := 0) (tp := []) (b__law_joined d) rfl (b__law_joined_x d) rfl (by kernel_rfl) (P := True) (by kernel_rfl) trivial
theorem ok_join8 (a b : V) : CallOK G (d + 1) 61 [.int 8, .str x, a, b] (.val (.tup [.str z_less, a, b])) := call_go (n := 0) (tp := []) (b__law_joined d) rfl (b__law_joined_x d) rfl (by kernel_rfl) (P := True) (by kernel_rfl) trivial
theorem ok_join9 (a b : V) : CallOK G (d + 1) 61 [.int 9, .str x, a, b] (.val (.tup [.str z_if, a, b, .tup [.str z_name, .str x]])) := call_go (n := 0) (tp := []) (b__law_joined d) rfl (b__law_joined_x d) rfl (by kernel_rfl) (P := True) (by kernel_rfl) trivial
theorem ok_join10 (a b : V) : CallOK G (d + 1) 61 [.int 10, .str x, a, b] (.val (.tup [.str z_let, .str x, a, b])) := call_go (n := 0) (tp := []) (b__law_joined d) rfl (b__law_joined_x d) rfl (by kernel_rfl) (P := True) (by kernel_rfl) trivial
abbrev TF (d : Nat) (l : List V) (ρ : Loc) (fl : Fl) (ρ' : Loc) : Prop := ForOK G (d + 1) fi__law_tree_by (.Name "_law_cell" ⟨66,8,66,17⟩) (l__law_tree_by_66 (d + 1)).xs l ρ fl ρ'
def TT (d : Nat) (C : V) (x0 : List Nat) (M : List V) (c : Int) (S S' : List V) (x3 x4 x5 x6 x7 x8 : Option O) : Prop := ∃ y3 y4 y5 y6 y7 y8, ∀ l fl ρ', TF d l (gst C (.lst (.str x0 :: M)) S' y3 y4 y5 y6 y7 y8) fl ρ' → TF d (.int c :: l) (gst C (.lst (.str x0 :: M)) S x3 x4 x5 x6 x7 x8) fl ρ'
theorem tb_name0 {c : Int} {S : List V} (hL : 0 < ((V.str x0 :: M).length : Int) ∧ ((V.str x0 :: M).length : Int) < 2 ^ 29) (hx : Pick (.val (.lst (.str x0 :: M))) (c / 12 % ((V.str x0 :: M).length : Int)) (.val (.str x))) (hy : Pick (.val (.lst (.str x0 :: M))) (c / 12 / ((V.str x0 :: M).length : Int) % ((V.str x0 :: M).length : Int)) (.val (.str y))) (hk : c % 12 = 0) (hS : S.length < room) : TT d C x0 M c S (.tup [.str z_name, .str x] :: S) x3 x4 x5 x6 x7 x8 :=
  ⟨some (.val (.int c)), some (.val (.int 0)), some (.val (.int (c / 12))), some (.val (.str x)), some (.val (.str y)), x8, fun l fl ρ' h => for_go (i := 3) (tp := [.r (.val (.int 0)), .r (.val (.str x)), .r (.val (.str y))]) (by kernel_rfl) (by kernel_rfl) (P := (S.length < room) ∧ Pick (.val (.lst (.str x0 :: M))) (c / 12 / ((V.str x0 :: M).length : Int) % ((V.str x0 :: M).length : Int)) (.val (.str y)) ∧ (0 < ((V.str x0 :: M).length : Int)) ∧ (0 < ((V.str x0 :: M).length : Int) ∧ ((V.str x0 :: M).length : Int) < 2 ^ 29) ∧ Pick (.val (.lst (.str x0 :: M))) (c / 12 % ((V.str x0 :: M).length : Int)) (.val (.str x)) ∧ (0 < ((V.str x0 :: M).length : Int)) ∧ ((0 : Int) < 12 ∧ (12 : Int) < 2 ^ 29) ∧ (O.val (.int (c % 12)) = .val (.int 0)) ∧ ((0 : Int) < 12) ∧ True) (by kernel_rfl) ⟨hS, hy, hL.1, hL, hx, hL.1, by decide, by rw [hk], by decide, trivial⟩ h⟩
theorem tb_name1 {c : Int}  (hL : 0 < ((V.str x0 :: M).length : Int) ∧ ((V.str x0 :: M).length : Int) < 2 ^ 29) (hx : Pick (.val (.lst (.str x0 :: M))) (c / 12 % ((V.str x0 :: M).length : Int)) (.val (.str x))) (hy : Pick (.val (.lst (.str x0 :: M))) (c / 12 / ((V.str x0 :: M).length : Int) % ((V.str x0 :: M).length : Int)) (.val (.str y))) (hk : c % 12 = 1) : TT d C x0 M c [] [.tup [.str z_name, .str x]] x3 x4 x5 x6 x7 x8 :=
  ⟨some (.val (.int c)), some (.val (.int 1)), some (.val (.int (c / 12))), some (.val (.str x)), some (.val (.str y)), x8, fun l fl ρ' h => for_go (i := 3) (tp := [.r (.val (.int 1)), .r (.val (.str x)), .r (.val (.str y))]) (by kernel_rfl) (by kernel_rfl) (P := (([] : List V).length < room) ∧ ((0 : Int) < 2) ∧ Pick (.val (.lst (.str x0 :: M))) (c / 12 / ((V.str x0 :: M).length : Int) % ((V.str x0 :: M).length : Int)) (.val (.str y)) ∧ (0 < ((V.str x0 :: M).length : Int)) ∧ (0 < ((V.str x0 :: M).length : Int) ∧ ((V.str x0 :: M).length : Int) < 2 ^ 29) ∧ Pick (.val (.lst (.str x0 :: M))) (c / 12 % ((V.str x0 :: M).length : Int)) (.val (.str x)) ∧ (0 < ((V.str x0 :: M).length : Int)) ∧ ((0 : Int) < 12 ∧ (12 : Int) < 2 ^ 29) ∧ (O.val (.int (c % 12)) = .val (.int 1)) ∧ ((0 : Int) < 12) ∧ True) (by kernel_rfl) ⟨by decide, by decide, hy, hL.1, hL, hx, hL.1, by decide, by rw [hk], by decide, trivial⟩ h⟩
theorem tb_name3 {c : Int}  (hL : 0 < ((V.str x0 :: M).length : Int) ∧ ((V.str x0 :: M).length : Int) < 2 ^ 29) (hx : Pick (.val (.lst (.str x0 :: M))) (c / 12 % ((V.str x0 :: M).length : Int)) (.val (.str x))) (hy : Pick (.val (.lst (.str x0 :: M))) (c / 12 / ((V.str x0 :: M).length : Int) % ((V.str x0 :: M).length : Int)) (.val (.str y))) (hk : c % 12 = 3) : TT d C x0 M c [] [.tup [.str z_name, .str x]] x3 x4 x5 x6 x7 x8 :=
  ⟨some (.val (.int c)), some (.val (.int 3)), some (.val (.int (c / 12))), some (.val (.str x)), some (.val (.str y)), x8, fun l fl ρ' h => for_go (i := 3) (tp := [.r (.val (.int 3)), .r (.val (.str x)), .r (.val (.str y))]) (by kernel_rfl) (by kernel_rfl) (P := (([] : List V).length < room) ∧ ((0 : Int) < 2) ∧ Pick (.val (.lst (.str x0 :: M))) (c / 12 / ((V.str x0 :: M).length : Int) % ((V.str x0 :: M).length : Int)) (.val (.str y)) ∧ (0 < ((V.str x0 :: M).length : Int)) ∧ (0 < ((V.str x0 :: M).length : Int) ∧ ((V.str x0 :: M).length : Int) < 2 ^ 29) ∧ Pick (.val (.lst (.str x0 :: M))) (c / 12 % ((V.str x0 :: M).length : Int)) (.val (.str x)) ∧ (0 < ((V.str x0 :: M).length : Int)) ∧ ((0 : Int) < 12 ∧ (12 : Int) < 2 ^ 29) ∧ (O.val (.int (c % 12)) = .val (.int 3)) ∧ ((0 : Int) < 12) ∧ True) (by kernel_rfl) ⟨by decide, by decide, hy, hL.1, hL, hx, hL.1, by decide, by rw [hk], by decide, trivial⟩ h⟩
theorem tb_name5 {c : Int}  (hL : 0 < ((V.str x0 :: M).length : Int) ∧ ((V.str x0 :: M).length : Int) < 2 ^ 29) (hx : Pick (.val (.lst (.str x0 :: M))) (c / 12 % ((V.str x0 :: M).length : Int)) (.val (.str x))) (hy : Pick (.val (.lst (.str x0 :: M))) (c / 12 / ((V.str x0 :: M).length : Int) % ((V.str x0 :: M).length : Int)) (.val (.str y))) (hk : c % 12 = 5) : TT d C x0 M c [] [.tup [.str z_name, .str x]] x3 x4 x5 x6 x7 x8 :=
  ⟨some (.val (.int c)), some (.val (.int 5)), some (.val (.int (c / 12))), some (.val (.str x)), some (.val (.str y)), x8, fun l fl ρ' h => for_go (i := 3) (tp := [.r (.val (.int 5)), .r (.val (.str x)), .r (.val (.str y))]) (by kernel_rfl) (by kernel_rfl) (P := (([] : List V).length < room) ∧ ((0 : Int) < 2) ∧ Pick (.val (.lst (.str x0 :: M))) (c / 12 / ((V.str x0 :: M).length : Int) % ((V.str x0 :: M).length : Int)) (.val (.str y)) ∧ (0 < ((V.str x0 :: M).length : Int)) ∧ (0 < ((V.str x0 :: M).length : Int) ∧ ((V.str x0 :: M).length : Int) < 2 ^ 29) ∧ Pick (.val (.lst (.str x0 :: M))) (c / 12 % ((V.str x0 :: M).length : Int)) (.val (.str x)) ∧ (0 < ((V.str x0 :: M).length : Int)) ∧ ((0 : Int) < 12 ∧ (12 : Int) < 2 ^ 29) ∧ (O.val (.int (c % 12)) = .val (.int 5)) ∧ ((0 : Int) < 12) ∧ True) (by kernel_rfl) ⟨by decide, by decide, hy, hL.1, hL, hx, hL.1, by decide, by rw [hk], by decide, trivial⟩ h⟩
theorem tb_name7 {c : Int}  (hL : 0 < ((V.str x0 :: M).length : Int) ∧ ((V.str x0 :: M).length : Int) < 2 ^ 29) (hx : Pick (.val (.lst (.str x0 :: M))) (c / 12 % ((V.str x0 :: M).length : Int)) (.val (.str x))) (hy : Pick (.val (.lst (.str x0 :: M))) (c / 12 / ((V.str x0 :: M).length : Int) % ((V.str x0 :: M).length : Int)) (.val (.str y))) (hk : c % 12 = 7) : TT d C x0 M c [] [.tup [.str z_name, .str x]] x3 x4 x5 x6 x7 x8 :=
  ⟨some (.val (.int c)), some (.val (.int 7)), some (.val (.int (c / 12))), some (.val (.str x)), some (.val (.str y)), x8, fun l fl ρ' h => for_go (i := 3) (tp := [.r (.val (.int 7)), .r (.val (.str x)), .r (.val (.str y))]) (by kernel_rfl) (by kernel_rfl) (P := (([] : List V).length < room) ∧ ((0 : Int) < 2) ∧ Pick (.val (.lst (.str x0 :: M))) (c / 12 / ((V.str x0 :: M).length : Int) % ((V.str x0 :: M).length : Int)) (.val (.str y)) ∧ (0 < ((V.str x0 :: M).length : Int)) ∧ (0 < ((V.str x0 :: M).length : Int) ∧ ((V.str x0 :: M).length : Int) < 2 ^ 29) ∧ Pick (.val (.lst (.str x0 :: M))) (c / 12 % ((V.str x0 :: M).length : Int)) (.val (.str x)) ∧ (0 < ((V.str x0 :: M).length : Int)) ∧ ((0 : Int) < 12 ∧ (12 : Int) < 2 ^ 29) ∧ (O.val (.int (c % 12)) = .val (.int 7)) ∧ ((0 : Int) < 12) ∧ True) (by kernel_rfl) ⟨by decide, by decide, hy, hL.1, hL, hx, hL.1, by decide, by rw [hk], by decide, trivial⟩ h⟩
theorem tb_name9 {c : Int}  (hL : 0 < ((V.str x0 :: M).length : Int) ∧ ((V.str x0 :: M).length : Int) < 2 ^ 29) (hx : Pick (.val (.lst (.str x0 :: M))) (c / 12 % ((V.str x0 :: M).length : Int)) (.val (.str x))) (hy : Pick (.val (.lst (.str x0 :: M))) (c / 12 / ((V.str x0 :: M).length : Int) % ((V.str x0 :: M).length : Int)) (.val (.str y))) (hk : c % 12 = 9) : TT d C x0 M c [] [.tup [.str z_name, .str x]] x3 x4 x5 x6 x7 x8 :=
  ⟨some (.val (.int c)), some (.val (.int 9)), some (.val (.int (c / 12))), some (.val (.str x)), some (.val (.str y)), x8, fun l fl ρ' h => for_go (i := 3) (tp := [.r (.val (.int 9)), .r (.val (.str x)), .r (.val (.str y))]) (by kernel_rfl) (by kernel_rfl) (P := (([] : List V).length < room) ∧ ((0 : Int) < 2) ∧ Pick (.val (.lst (.str x0 :: M))) (c / 12 / ((V.str x0 :: M).length : Int) % ((V.str x0 :: M).length : Int)) (.val (.str y)) ∧ (0 < ((V.str x0 :: M).length : Int)) ∧ (0 < ((V.str x0 :: M).length : Int) ∧ ((V.str x0 :: M).length : Int) < 2 ^ 29) ∧ Pick (.val (.lst (.str x0 :: M))) (c / 12 % ((V.str x0 :: M).length : Int)) (.val (.str x)) ∧ (0 < ((V.str x0 :: M).length : Int)) ∧ ((0 : Int) < 12 ∧ (12 : Int) < 2 ^ 29) ∧ (O.val (.int (c % 12)) = .val (.int 9)) ∧ ((0 : Int) < 12) ∧ True) (by kernel_rfl) ⟨by decide, by decide, hy, hL.1, hL, hx, hL.1, by decide, by rw [hk], by decide, trivial⟩ h⟩
theorem tb_name11 {c : Int}  (hL : 0 < ((V.str x0 :: M).length : Int) ∧ ((V.str x0 :: M).length : Int) < 2 ^ 29) (hx : Pick (.val (.lst (.str x0 :: M))) (c / 12 % ((V.str x0 :: M).length : Int)) (.val (.str x))) (hy : Pick (.val (.lst (.str x0 :: M))) (c / 12 / ((V.str x0 :: M).length : Int) % ((V.str x0 :: M).length : Int)) (.val (.str y))) (hk : c % 12 = 11) : TT d C x0 M c [] [.tup [.str z_name, .str x]] x3 x4 x5 x6 x7 x8 :=
  ⟨some (.val (.int c)), some (.val (.int 11)), some (.val (.int (c / 12))), some (.val (.str x)), some (.val (.str y)), x8, fun l fl ρ' h => for_go (i := 3) (tp := [.r (.val (.int 11)), .r (.val (.str x)), .r (.val (.str y))]) (by kernel_rfl) (by kernel_rfl) (P := (([] : List V).length < room) ∧ ((0 : Int) < 2) ∧ Pick (.val (.lst (.str x0 :: M))) (c / 12 / ((V.str x0 :: M).length : Int) % ((V.str x0 :: M).length : Int)) (.val (.str y)) ∧ (0 < ((V.str x0 :: M).length : Int)) ∧ (0 < ((V.str x0 :: M).length : Int) ∧ ((V.str x0 :: M).length : Int) < 2 ^ 29) ∧ Pick (.val (.lst (.str x0 :: M))) (c / 12 % ((V.str x0 :: M).length : Int)) (.val (.str x)) ∧ (0 < ((V.str x0 :: M).length : Int)) ∧ ((0 : Int) < 12 ∧ (12 : Int) < 2 ^ 29) ∧ (O.val (.int (c % 12)) = .val (.int 11)) ∧ ((0 : Int) < 12) ∧ True) (by kernel_rfl) ⟨by decide, by decide, hy, hL.1, hL, hx, hL.1, by decide, by rw [hk], by decide, trivial⟩ h⟩
theorem tb_num2n {c : Int}  (hL : 0 < ((V.str x0 :: M).length : Int) ∧ ((V.str x0 :: M).length : Int) < 2 ^ 29) (hx : Pick (.val (.lst (.str x0 :: M))) (c / 12 % ((V.str x0 :: M).length : Int)) (.val (.str x))) (hy : Pick (.val (.lst (.str x0 :: M))) (c / 12 / ((V.str x0 :: M).length : Int) % ((V.str x0 :: M).length : Int)) (.val (.str y))) (hk : c % 12 = 2) : TT d C x0 M c [] [.tup [.str z_num, .int (c / 12 % (2 * (10 : Int) ^ (60 : Int).toNat - 1) - (10 : Int) ^ (60 : Int).toNat + 1)]] x3 x4 x5 x6 x7 x8 :=
  ⟨some (.val (.int c)), some (.val (.int 2)), some (.val (.int (c / 12))), some (.val (.str x)), some (.val (.str y)), x8, fun l fl ρ' h => for_go (i := 3) (tp := [.r (.val (.int 2)), .r (.val (.str x)), .r (.val (.str y))]) (by kernel_rfl) (by kernel_rfl) (P := (([] : List V).length < room) ∧ ((10 : Int) = 10 ∧ (0 : Int) < 60 ∧ (60 : Int) ≤ 100) ∧ ((0 : Int) < 2 * (10 : Int) ^ (60 : Int).toNat - 1) ∧ ((2 : Int).natAbs < 2 ^ 62 ∨ ((10 : Int) ^ (60 : Int).toNat).natAbs < 2 ^ 62) ∧ ((10 : Int) = 10 ∧ (0 : Int) < 60 ∧ (60 : Int) ≤ 100) ∧ ((0 : Int) < 2) ∧ Pick (.val (.lst (.str x0 :: M))) (c / 12 / ((V.str x0 :: M).length : Int) % ((V.str x0 :: M).length : Int)) (.val (.str y)) ∧ (0 < ((V.str x0 :: M).length : Int)) ∧ (0 < ((V.str x0 :: M).length : Int) ∧ ((V.str x0 :: M).length : Int) < 2 ^ 29) ∧ Pick (.val (.lst (.str x0 :: M))) (c / 12 % ((V.str x0 :: M).length : Int)) (.val (.str x)) ∧ (0 < ((V.str x0 :: M).length : Int)) ∧ ((0 : Int) < 12 ∧ (12 : Int) < 2 ^ 29) ∧ (O.val (.int (c % 12)) = .val (.int 2)) ∧ ((0 : Int) < 12) ∧ True) (by kernel_rfl) ⟨by decide, by decide, by decide, .inl (by decide), by decide, by decide, hy, hL.1, hL, hx, hL.1, by decide, by rw [hk], by decide, trivial⟩ h⟩
theorem tb_num4n {c : Int}  (hL : 0 < ((V.str x0 :: M).length : Int) ∧ ((V.str x0 :: M).length : Int) < 2 ^ 29) (hx : Pick (.val (.lst (.str x0 :: M))) (c / 12 % ((V.str x0 :: M).length : Int)) (.val (.str x))) (hy : Pick (.val (.lst (.str x0 :: M))) (c / 12 / ((V.str x0 :: M).length : Int) % ((V.str x0 :: M).length : Int)) (.val (.str y))) (hk : c % 12 = 4) : TT d C x0 M c [] [.tup [.str z_num, .int (c / 12 % (2 * (10 : Int) ^ (60 : Int).toNat - 1) - (10 : Int) ^ (60 : Int).toNat + 1)]] x3 x4 x5 x6 x7 x8 :=
  ⟨some (.val (.int c)), some (.val (.int 4)), some (.val (.int (c / 12))), some (.val (.str x)), some (.val (.str y)), x8, fun l fl ρ' h => for_go (i := 3) (tp := [.r (.val (.int 4)), .r (.val (.str x)), .r (.val (.str y))]) (by kernel_rfl) (by kernel_rfl) (P := (([] : List V).length < room) ∧ ((10 : Int) = 10 ∧ (0 : Int) < 60 ∧ (60 : Int) ≤ 100) ∧ ((0 : Int) < 2 * (10 : Int) ^ (60 : Int).toNat - 1) ∧ ((2 : Int).natAbs < 2 ^ 62 ∨ ((10 : Int) ^ (60 : Int).toNat).natAbs < 2 ^ 62) ∧ ((10 : Int) = 10 ∧ (0 : Int) < 60 ∧ (60 : Int) ≤ 100) ∧ ((0 : Int) < 2) ∧ Pick (.val (.lst (.str x0 :: M))) (c / 12 / ((V.str x0 :: M).length : Int) % ((V.str x0 :: M).length : Int)) (.val (.str y)) ∧ (0 < ((V.str x0 :: M).length : Int)) ∧ (0 < ((V.str x0 :: M).length : Int) ∧ ((V.str x0 :: M).length : Int) < 2 ^ 29) ∧ Pick (.val (.lst (.str x0 :: M))) (c / 12 % ((V.str x0 :: M).length : Int)) (.val (.str x)) ∧ (0 < ((V.str x0 :: M).length : Int)) ∧ ((0 : Int) < 12 ∧ (12 : Int) < 2 ^ 29) ∧ (O.val (.int (c % 12)) = .val (.int 4)) ∧ ((0 : Int) < 12) ∧ True) (by kernel_rfl) ⟨by decide, by decide, by decide, .inl (by decide), by decide, by decide, hy, hL.1, hL, hx, hL.1, by decide, by rw [hk], by decide, trivial⟩ h⟩
theorem tb_num6n {c : Int}  (hL : 0 < ((V.str x0 :: M).length : Int) ∧ ((V.str x0 :: M).length : Int) < 2 ^ 29) (hx : Pick (.val (.lst (.str x0 :: M))) (c / 12 % ((V.str x0 :: M).length : Int)) (.val (.str x))) (hy : Pick (.val (.lst (.str x0 :: M))) (c / 12 / ((V.str x0 :: M).length : Int) % ((V.str x0 :: M).length : Int)) (.val (.str y))) (hk : c % 12 = 6) : TT d C x0 M c [] [.tup [.str z_num, .int (c / 12 % (2 * (10 : Int) ^ (60 : Int).toNat - 1) - (10 : Int) ^ (60 : Int).toNat + 1)]] x3 x4 x5 x6 x7 x8 :=
  ⟨some (.val (.int c)), some (.val (.int 6)), some (.val (.int (c / 12))), some (.val (.str x)), some (.val (.str y)), x8, fun l fl ρ' h => for_go (i := 3) (tp := [.r (.val (.int 6)), .r (.val (.str x)), .r (.val (.str y))]) (by kernel_rfl) (by kernel_rfl) (P := (([] : List V).length < room) ∧ ((10 : Int) = 10 ∧ (0 : Int) < 60 ∧ (60 : Int) ≤ 100) ∧ ((0 : Int) < 2 * (10 : Int) ^ (60 : Int).toNat - 1) ∧ ((2 : Int).natAbs < 2 ^ 62 ∨ ((10 : Int) ^ (60 : Int).toNat).natAbs < 2 ^ 62) ∧ ((10 : Int) = 10 ∧ (0 : Int) < 60 ∧ (60 : Int) ≤ 100) ∧ ((0 : Int) < 2) ∧ Pick (.val (.lst (.str x0 :: M))) (c / 12 / ((V.str x0 :: M).length : Int) % ((V.str x0 :: M).length : Int)) (.val (.str y)) ∧ (0 < ((V.str x0 :: M).length : Int)) ∧ (0 < ((V.str x0 :: M).length : Int) ∧ ((V.str x0 :: M).length : Int) < 2 ^ 29) ∧ Pick (.val (.lst (.str x0 :: M))) (c / 12 % ((V.str x0 :: M).length : Int)) (.val (.str x)) ∧ (0 < ((V.str x0 :: M).length : Int)) ∧ ((0 : Int) < 12 ∧ (12 : Int) < 2 ^ 29) ∧ (O.val (.int (c % 12)) = .val (.int 6)) ∧ ((0 : Int) < 12) ∧ True) (by kernel_rfl) ⟨by decide, by decide, by decide, .inl (by decide), by decide, by decide, hy, hL.1, hL, hx, hL.1, by decide, by rw [hk], by decide, trivial⟩ h⟩
theorem tb_num8n {c : Int}  (hL : 0 < ((V.str x0 :: M).length : Int) ∧ ((V.str x0 :: M).length : Int) < 2 ^ 29) (hx : Pick (.val (.lst (.str x0 :: M))) (c / 12 % ((V.str x0 :: M).length : Int)) (.val (.str x))) (hy : Pick (.val (.lst (.str x0 :: M))) (c / 12 / ((V.str x0 :: M).length : Int) % ((V.str x0 :: M).length : Int)) (.val (.str y))) (hk : c % 12 = 8) : TT d C x0 M c [] [.tup [.str z_num, .int (c / 12 % (2 * (10 : Int) ^ (60 : Int).toNat - 1) - (10 : Int) ^ (60 : Int).toNat + 1)]] x3 x4 x5 x6 x7 x8 :=
  ⟨some (.val (.int c)), some (.val (.int 8)), some (.val (.int (c / 12))), some (.val (.str x)), some (.val (.str y)), x8, fun l fl ρ' h => for_go (i := 3) (tp := [.r (.val (.int 8)), .r (.val (.str x)), .r (.val (.str y))]) (by kernel_rfl) (by kernel_rfl) (P := (([] : List V).length < room) ∧ ((10 : Int) = 10 ∧ (0 : Int) < 60 ∧ (60 : Int) ≤ 100) ∧ ((0 : Int) < 2 * (10 : Int) ^ (60 : Int).toNat - 1) ∧ ((2 : Int).natAbs < 2 ^ 62 ∨ ((10 : Int) ^ (60 : Int).toNat).natAbs < 2 ^ 62) ∧ ((10 : Int) = 10 ∧ (0 : Int) < 60 ∧ (60 : Int) ≤ 100) ∧ ((0 : Int) < 2) ∧ Pick (.val (.lst (.str x0 :: M))) (c / 12 / ((V.str x0 :: M).length : Int) % ((V.str x0 :: M).length : Int)) (.val (.str y)) ∧ (0 < ((V.str x0 :: M).length : Int)) ∧ (0 < ((V.str x0 :: M).length : Int) ∧ ((V.str x0 :: M).length : Int) < 2 ^ 29) ∧ Pick (.val (.lst (.str x0 :: M))) (c / 12 % ((V.str x0 :: M).length : Int)) (.val (.str x)) ∧ (0 < ((V.str x0 :: M).length : Int)) ∧ ((0 : Int) < 12 ∧ (12 : Int) < 2 ^ 29) ∧ (O.val (.int (c % 12)) = .val (.int 8)) ∧ ((0 : Int) < 12) ∧ True) (by kernel_rfl) ⟨by decide, by decide, by decide, .inl (by decide), by decide, by decide, hy, hL.1, hL, hx, hL.1, by decide, by rw [hk], by decide, trivial⟩ h⟩
theorem tb_num10n {c : Int}  (hL : 0 < ((V.str x0 :: M).length : Int) ∧ ((V.str x0 :: M).length : Int) < 2 ^ 29) (hx : Pick (.val (.lst (.str x0 :: M))) (c / 12 % ((V.str x0 :: M).length : Int)) (.val (.str x))) (hy : Pick (.val (.lst (.str x0 :: M))) (c / 12 / ((V.str x0 :: M).length : Int) % ((V.str x0 :: M).length : Int)) (.val (.str y))) (hk : c % 12 = 10) : TT d C x0 M c [] [.tup [.str z_num, .int (c / 12 % (2 * (10 : Int) ^ (60 : Int).toNat - 1) - (10 : Int) ^ (60 : Int).toNat + 1)]] x3 x4 x5 x6 x7 x8 :=
  ⟨some (.val (.int c)), some (.val (.int 10)), some (.val (.int (c / 12))), some (.val (.str x)), some (.val (.str y)), x8, fun l fl ρ' h => for_go (i := 3) (tp := [.r (.val (.int 10)), .r (.val (.str x)), .r (.val (.str y))]) (by kernel_rfl) (by kernel_rfl) (P := (([] : List V).length < room) ∧ ((10 : Int) = 10 ∧ (0 : Int) < 60 ∧ (60 : Int) ≤ 100) ∧ ((0 : Int) < 2 * (10 : Int) ^ (60 : Int).toNat - 1) ∧ ((2 : Int).natAbs < 2 ^ 62 ∨ ((10 : Int) ^ (60 : Int).toNat).natAbs < 2 ^ 62) ∧ ((10 : Int) = 10 ∧ (0 : Int) < 60 ∧ (60 : Int) ≤ 100) ∧ ((0 : Int) < 2) ∧ Pick (.val (.lst (.str x0 :: M))) (c / 12 / ((V.str x0 :: M).length : Int) % ((V.str x0 :: M).length : Int)) (.val (.str y)) ∧ (0 < ((V.str x0 :: M).length : Int)) ∧ (0 < ((V.str x0 :: M).length : Int) ∧ ((V.str x0 :: M).length : Int) < 2 ^ 29) ∧ Pick (.val (.lst (.str x0 :: M))) (c / 12 % ((V.str x0 :: M).length : Int)) (.val (.str x)) ∧ (0 < ((V.str x0 :: M).length : Int)) ∧ ((0 : Int) < 12 ∧ (12 : Int) < 2 ^ 29) ∧ (O.val (.int (c % 12)) = .val (.int 10)) ∧ ((0 : Int) < 12) ∧ True) (by kernel_rfl) ⟨by decide, by decide, by decide, .inl (by decide), by decide, by decide, hy, hL.1, hL, hx, hL.1, by decide, by rw [hk], by decide, trivial⟩ h⟩
theorem tb_num1 {c : Int} {S : List V} {a : V} (hL : 0 < ((V.str x0 :: M).length : Int) ∧ ((V.str x0 :: M).length : Int) < 2 ^ 29) (hx : Pick (.val (.lst (.str x0 :: M))) (c / 12 % ((V.str x0 :: M).length : Int)) (.val (.str x))) (hy : Pick (.val (.lst (.str x0 :: M))) (c / 12 / ((V.str x0 :: M).length : Int) % ((V.str x0 :: M).length : Int)) (.val (.str y))) (hk : c % 12 = 1) (hS : (a :: S).length < room) : TT d C x0 M c (a :: S) (.tup [.str z_num, .int (c / 12 % (2 * (10 : Int) ^ (60 : Int).toNat - 1) - (10 : Int) ^ (60 : Int).toNat + 1)] :: a :: S) x3 x4 x5 x6 x7 x8 :=
  ⟨some (.val (.int c)), some (.val (.int 1)), some (.val (.int (c / 12))), some (.val (.str x)), some (.val (.str y)), x8, fun l fl ρ' h => for_go (i := 3) (tp := [.r (.val (.int 1)), .r (.val (.str x)), .r (.val (.str y))]) (by kernel_rfl) (by kernel_rfl) (P := ((a :: S : List V).length < room) ∧ ((10 : Int) = 10 ∧ (0 : Int) < 60 ∧ (60 : Int) ≤ 100) ∧ ((0 : Int) < 2 * (10 : Int) ^ (60 : Int).toNat - 1) ∧ ((2 : Int).natAbs < 2 ^ 62 ∨ ((10 : Int) ^ (60 : Int).toNat).natAbs < 2 ^ 62) ∧ ((10 : Int) = 10 ∧ (0 : Int) < 60 ∧ (60 : Int) ≤ 100) ∧ Pick (.val (.lst (.str x0 :: M))) (c / 12 / ((V.str x0 :: M).length : Int) % ((V.str x0 :: M).length : Int)) (.val (.str y)) ∧ (0 < ((V.str x0 :: M).length : Int)) ∧ (0 < ((V.str x0 :: M).length : Int) ∧ ((V.str x0 :: M).length : Int) < 2 ^ 29) ∧ Pick (.val (.lst (.str x0 :: M))) (c / 12 % ((V.str x0 :: M).length : Int)) (.val (.str x)) ∧ (0 < ((V.str x0 :: M).length : Int)) ∧ ((0 : Int) < 12 ∧ (12 : Int) < 2 ^ 29) ∧ (O.val (.int (c % 12)) = .val (.int 1)) ∧ ((0 : Int) < 12) ∧ True) (by kernel_rfl) ⟨hS, by decide, by decide, .inl (by decide), by decide, hy, hL.1, hL, hx, hL.1, by decide, by rw [hk], by decide, trivial⟩ h⟩
theorem tb_num2 {c : Int} {S : List V} {a : V} (hL : 0 < ((V.str x0 :: M).length : Int) ∧ ((V.str x0 :: M).length : Int) < 2 ^ 29) (hx : Pick (.val (.lst (.str x0 :: M))) (c / 12 % ((V.str x0 :: M).length : Int)) (.val (.str x))) (hy : Pick (.val (.lst (.str x0 :: M))) (c / 12 / ((V.str x0 :: M).length : Int) % ((V.str x0 :: M).length : Int)) (.val (.str y))) (hk : c % 12 = 2) (hS : (a :: S).length < room) : TT d C x0 M c (a :: S) (.tup [.str z_num, .int (c / 12 % (2 * (10 : Int) ^ (60 : Int).toNat - 1) - (10 : Int) ^ (60 : Int).toNat + 1)] :: a :: S) x3 x4 x5 x6 x7 x8 :=
  ⟨some (.val (.int c)), some (.val (.int 2)), some (.val (.int (c / 12))), some (.val (.str x)), some (.val (.str y)), x8, fun l fl ρ' h => for_go (i := 3) (tp := [.r (.val (.int 2)), .r (.val (.str x)), .r (.val (.str y))]) (by kernel_rfl) (by kernel_rfl) (P := ((a :: S : List V).length < room) ∧ ((10 : Int) = 10 ∧ (0 : Int) < 60 ∧ (60 : Int) ≤ 100) ∧ ((0 : Int) < 2 * (10 : Int) ^ (60 : Int).toNat - 1) ∧ ((2 : Int).natAbs < 2 ^ 62 ∨ ((10 : Int) ^ (60 : Int).toNat).natAbs < 2 ^ 62) ∧ ((10 : Int) = 10 ∧ (0 : Int) < 60 ∧ (60 : Int) ≤ 100) ∧ Pick (.val (.lst (.str x0 :: M))) (c / 12 / ((V.str x0 :: M).length : Int) % ((V.str x0 :: M).length : Int)) (.val (.str y)) ∧ (0 < ((V.str x0 :: M).length : Int)) ∧ (0 < ((V.str x0 :: M).length : Int) ∧ ((V.str x0 :: M).length : Int) < 2 ^ 29) ∧ Pick (.val (.lst (.str x0 :: M))) (c / 12 % ((V.str x0 :: M).length : Int)) (.val (.str x)) ∧ (0 < ((V.str x0 :: M).length : Int)) ∧ ((0 : Int) < 12 ∧ (12 : Int) < 2 ^ 29) ∧ (O.val (.int (c % 12)) = .val (.int 2)) ∧ ((0 : Int) < 12) ∧ True) (by kernel_rfl) ⟨hS, by decide, by decide, .inl (by decide), by decide, hy, hL.1, hL, hx, hL.1, by decide, by rw [hk], by decide, trivial⟩ h⟩
theorem tb_fun {c : Int} {S : List V} {a : V} (hL : 0 < ((V.str x0 :: M).length : Int) ∧ ((V.str x0 :: M).length : Int) < 2 ^ 29) (hx : Pick (.val (.lst (.str x0 :: M))) (c / 12 % ((V.str x0 :: M).length : Int)) (.val (.str x))) (hy : Pick (.val (.lst (.str x0 :: M))) (c / 12 / ((V.str x0 :: M).length : Int) % ((V.str x0 :: M).length : Int)) (.val (.str y))) (hk : c % 12 = 3) : TT d C x0 M c (a :: S) (.tup [.str z_fun, .str x, a] :: S) x3 x4 x5 x6 x7 x8 :=
  ⟨some (.val (.int c)), some (.val (.int 3)), some (.val (.int (c / 12))), some (.val (.str x)), some (.val (.str y)), x8, fun l fl ρ' h => for_go (i := 3) (tp := [.r (.val (.int 3)), .r (.val (.str x)), .r (.val (.str y))]) (by kernel_rfl) (by kernel_rfl) (P := Pick (.val (.lst (.str x0 :: M))) (c / 12 / ((V.str x0 :: M).length : Int) % ((V.str x0 :: M).length : Int)) (.val (.str y)) ∧ (0 < ((V.str x0 :: M).length : Int)) ∧ (0 < ((V.str x0 :: M).length : Int) ∧ ((V.str x0 :: M).length : Int) < 2 ^ 29) ∧ Pick (.val (.lst (.str x0 :: M))) (c / 12 % ((V.str x0 :: M).length : Int)) (.val (.str x)) ∧ (0 < ((V.str x0 :: M).length : Int)) ∧ ((0 : Int) < 12 ∧ (12 : Int) < 2 ^ 29) ∧ (O.val (.int (c % 12)) = .val (.int 3)) ∧ ((0 : Int) < 12) ∧ True) (by kernel_rfl) ⟨hy, hL.1, hL, hx, hL.1, by decide, by rw [hk], by decide, trivial⟩ h⟩
theorem tb_call {c : Int} {S : List V} {a : V} (hL : 0 < ((V.str x0 :: M).length : Int) ∧ ((V.str x0 :: M).length : Int) < 2 ^ 29) (hx : Pick (.val (.lst (.str x0 :: M))) (c / 12 % ((V.str x0 :: M).length : Int)) (.val (.str x))) (hy : Pick (.val (.lst (.str x0 :: M))) (c / 12 / ((V.str x0 :: M).length : Int) % ((V.str x0 :: M).length : Int)) (.val (.str y))) (hk : c % 12 = 4) : TT d C x0 M c (a :: S) (.tup [.str z_call, .tup [.str z_fun, .str x, a], .tup [.str z_name, .str x]] :: S) x3 x4 x5 x6 x7 x8 :=
  ⟨some (.val (.int c)), some (.val (.int 4)), some (.val (.int (c / 12))), some (.val (.str x)), some (.val (.str y)), x8, fun l fl ρ' h => for_go (i := 3) (tp := [.r (.val (.int 4)), .r (.val (.str x)), .r (.val (.str y))]) (by kernel_rfl) (by kernel_rfl) (P := Pick (.val (.lst (.str x0 :: M))) (c / 12 / ((V.str x0 :: M).length : Int) % ((V.str x0 :: M).length : Int)) (.val (.str y)) ∧ (0 < ((V.str x0 :: M).length : Int)) ∧ (0 < ((V.str x0 :: M).length : Int) ∧ ((V.str x0 :: M).length : Int) < 2 ^ 29) ∧ Pick (.val (.lst (.str x0 :: M))) (c / 12 % ((V.str x0 :: M).length : Int)) (.val (.str x)) ∧ (0 < ((V.str x0 :: M).length : Int)) ∧ ((0 : Int) < 12 ∧ (12 : Int) < 2 ^ 29) ∧ (O.val (.int (c % 12)) = .val (.int 4)) ∧ ((0 : Int) < 12) ∧ True) (by kernel_rfl) ⟨hy, hL.1, hL, hx, hL.1, by decide, by rw [hk], by decide, trivial⟩ h⟩
theorem tb_let {c : Int} {S : List V} {a : V} (hL : 0 < ((V.str x0 :: M).length : Int) ∧ ((V.str x0 :: M).length : Int) < 2 ^ 29) (hx : Pick (.val (.lst (.str x0 :: M))) (c / 12 % ((V.str x0 :: M).length : Int)) (.val (.str x))) (hy : Pick (.val (.lst (.str x0 :: M))) (c / 12 / ((V.str x0 :: M).length : Int) % ((V.str x0 :: M).length : Int)) (.val (.str y))) (hk : c % 12 = 5) : TT d C x0 M c (a :: S) (.tup [.str z_let, .str x, a, .tup [.str z_call, .tup [.str z_name, .str x], .tup [.str z_name, .str y]]] :: S) x3 x4 x5 x6 x7 x8 :=
  ⟨some (.val (.int c)), some (.val (.int 5)), some (.val (.int (c / 12))), some (.val (.str x)), some (.val (.str y)), x8, fun l fl ρ' h => for_go (i := 3) (tp := [.r (.val (.int 5)), .r (.val (.str x)), .r (.val (.str y))]) (by kernel_rfl) (by kernel_rfl) (P := Pick (.val (.lst (.str x0 :: M))) (c / 12 / ((V.str x0 :: M).length : Int) % ((V.str x0 :: M).length : Int)) (.val (.str y)) ∧ (0 < ((V.str x0 :: M).length : Int)) ∧ (0 < ((V.str x0 :: M).length : Int) ∧ ((V.str x0 :: M).length : Int) < 2 ^ 29) ∧ Pick (.val (.lst (.str x0 :: M))) (c / 12 % ((V.str x0 :: M).length : Int)) (.val (.str x)) ∧ (0 < ((V.str x0 :: M).length : Int)) ∧ ((0 : Int) < 12 ∧ (12 : Int) < 2 ^ 29) ∧ (O.val (.int (c % 12)) = .val (.int 5)) ∧ ((0 : Int) < 12) ∧ True) (by kernel_rfl) ⟨hy, hL.1, hL, hx, hL.1, by decide, by rw [hk], by decide, trivial⟩ h⟩
theorem tb_push {c : Int} {S : List V} {a : V} (hL : 0 < ((V.str x0 :: M).length : Int) ∧ ((V.str x0 :: M).length : Int) < 2 ^ 29) (hx : Pick (.val (.lst (.str x0 :: M))) (c / 12 % ((V.str x0 :: M).length : Int)) (.val (.str x))) (hy : Pick (.val (.lst (.str x0 :: M))) (c / 12 / ((V.str x0 :: M).length : Int) % ((V.str x0 :: M).length : Int)) (.val (.str y))) (hk : c % 12 = 11) (hS : (a :: S).length < room) : TT d C x0 M c (a :: S) (.tup [.str z_fun, .str x, .tup [.str z_call, .tup [.str z_name, .str x], .tup [.str z_name, .str y]]] :: a :: S) x3 x4 x5 x6 x7 x8 :=
  ⟨some (.val (.int c)), some (.val (.int 11)), some (.val (.int (c / 12))), some (.val (.str x)), some (.val (.str y)), x8, fun l fl ρ' h => for_go (i := 3) (tp := [.r (.val (.int 11)), .r (.val (.str x)), .r (.val (.str y))]) (by kernel_rfl) (by kernel_rfl) (P := ((a :: S : List V).length < room) ∧ Pick (.val (.lst (.str x0 :: M))) (c / 12 / ((V.str x0 :: M).length : Int) % ((V.str x0 :: M).length : Int)) (.val (.str y)) ∧ (0 < ((V.str x0 :: M).length : Int)) ∧ (0 < ((V.str x0 :: M).length : Int) ∧ ((V.str x0 :: M).length : Int) < 2 ^ 29) ∧ Pick (.val (.lst (.str x0 :: M))) (c / 12 % ((V.str x0 :: M).length : Int)) (.val (.str x)) ∧ (0 < ((V.str x0 :: M).length : Int)) ∧ ((0 : Int) < 12 ∧ (12 : Int) < 2 ^ 29) ∧ (O.val (.int (c % 12)) = .val (.int 11)) ∧ ((0 : Int) < 12) ∧ True) (by kernel_rfl) ⟨hS, hy, hL.1, hL, hx, hL.1, by decide, by rw [hk], by decide, trivial⟩ h⟩
theorem tb_plus6 {c : Int} {a : V} (hL : 0 < ((V.str x0 :: M).length : Int) ∧ ((V.str x0 :: M).length : Int) < 2 ^ 29) (hx : Pick (.val (.lst (.str x0 :: M))) (c / 12 % ((V.str x0 :: M).length : Int)) (.val (.str x))) (hy : Pick (.val (.lst (.str x0 :: M))) (c / 12 / ((V.str x0 :: M).length : Int) % ((V.str x0 :: M).length : Int)) (.val (.str y))) (hk : c % 12 = 6) : TT d C x0 M c [a] [.tup [.str z_plus, .tup [.str z_num, .int (c / 12 % (10 : Int) ^ (60 : Int).toNat)], a]] x3 x4 x5 x6 x7 x8 :=
  ⟨some (.val (.int c)), some (.val (.int 6)), some (.val (.int (c / 12))), some (.val (.str x)), some (.val (.str y)), x8, fun l fl ρ' h => for_go (i := 3) (tp := [.r (.val (.int 6)), .r (.val (.str x)), .r (.val (.str y))]) (by kernel_rfl) (by kernel_rfl) (P := ((0 : Int) < (10 : Int) ^ (60 : Int).toNat) ∧ ((10 : Int) = 10 ∧ (0 : Int) < 60 ∧ (60 : Int) ≤ 100) ∧ Pick (.val (.lst (.str x0 :: M))) (c / 12 / ((V.str x0 :: M).length : Int) % ((V.str x0 :: M).length : Int)) (.val (.str y)) ∧ (0 < ((V.str x0 :: M).length : Int)) ∧ (0 < ((V.str x0 :: M).length : Int) ∧ ((V.str x0 :: M).length : Int) < 2 ^ 29) ∧ Pick (.val (.lst (.str x0 :: M))) (c / 12 % ((V.str x0 :: M).length : Int)) (.val (.str x)) ∧ (0 < ((V.str x0 :: M).length : Int)) ∧ ((0 : Int) < 12 ∧ (12 : Int) < 2 ^ 29) ∧ (O.val (.int (c % 12)) = .val (.int 6)) ∧ ((0 : Int) < 12) ∧ True) (by kernel_rfl) ⟨by decide, by decide, hy, hL.1, hL, hx, hL.1, by decide, by rw [hk], by decide, trivial⟩ h⟩
theorem tb_join6 {c : Int} {S : List V} {a b : V} (hL : 0 < ((V.str x0 :: M).length : Int) ∧ ((V.str x0 :: M).length : Int) < 2 ^ 29) (hx : Pick (.val (.lst (.str x0 :: M))) (c / 12 % ((V.str x0 :: M).length : Int)) (.val (.str x))) (hy : Pick (.val (.lst (.str x0 :: M))) (c / 12 / ((V.str x0 :: M).length : Int) % ((V.str x0 :: M).length : Int)) (.val (.str y))) (hk : c % 12 = 6) : TT d C x0 M c (a :: b :: S) (.tup [.str z_call, .tup [.str z_fun, .str x, b], a] :: S) x3 x4 x5 x6 x7 x8 :=
  ⟨some (.val (.int c)), some (.val (.int 6)), some (.val (.int (c / 12))), some (.val (.str x)), some (.val (.str y)), some (.val a), fun l fl ρ' h => for_go (i := 3) (tp := [.r (.val (.int 6)), .r (.val (.str x)), .r (.val (.str y)), .r (.val (.tup [.str z_call, .tup [.str z_fun, .str x, b], a]))]) (by kernel_rfl) (by kernel_rfl) (P := CallOK G (d + 1) 61 [.int 6, .str x, b, a] (.val (.tup [.str z_call, .tup [.str z_fun, .str x, b], a])) ∧ Pick (.val (.lst (.str x0 :: M))) (c / 12 / ((V.str x0 :: M).length : Int) % ((V.str x0 :: M).length : Int)) (.val (.str y)) ∧ (0 < ((V.str x0 :: M).length : Int)) ∧ (0 < ((V.str x0 :: M).length : Int) ∧ ((V.str x0 :: M).length : Int) < 2 ^ 29) ∧ Pick (.val (.lst (.str x0 :: M))) (c / 12 % ((V.str x0 :: M).length : Int)) (.val (.str x)) ∧ (0 < ((V.str x0 :: M).length : Int)) ∧ ((0 : Int) < 12 ∧ (12 : Int) < 2 ^ 29) ∧ (O.val (.int (c % 12)) = .val (.int 6)) ∧ ((0 : Int) < 12) ∧ True) (by kernel_rfl) ⟨ok_join6 b a, hy, hL.1, hL, hx, hL.1, by decide, by rw [hk], by decide, trivial⟩ h⟩
theorem tb_plus7 {c : Int} {a : V} (hL : 0 < ((V.str x0 :: M).length : Int) ∧ ((V.str x0 :: M).length : Int) < 2 ^ 29) (hx : Pick (.val (.lst (.str x0 :: M))) (c / 12 % ((V.str x0 :: M).length : Int)) (.val (.str x))) (hy : Pick (.val (.lst (.str x0 :: M))) (c / 12 / ((V.str x0 :: M).length : Int) % ((V.str x0 :: M).length : Int)) (.val (.str y))) (hk : c % 12 = 7) : TT d C x0 M c [a] [.tup [.str z_plus, .tup [.str z_num, .int (c / 12 % (10 : Int) ^ (60 : Int).toNat)], a]] x3 x4 x5 x6 x7 x8 :=
  ⟨some (.val (.int c)), some (.val (.int 7)), some (.val (.int (c / 12))), some (.val (.str x)), some (.val (.str y)), x8, fun l fl ρ' h => for_go (i := 3) (tp := [.r (.val (.int 7)), .r (.val (.str x)), .r (.val (.str y))]) (by kernel_rfl) (by kernel_rfl) (P := ((0 : Int) < (10 : Int) ^ (60 : Int).toNat) ∧ ((10 : Int) = 10 ∧ (0 : Int) < 60 ∧ (60 : Int) ≤ 100) ∧ Pick (.val (.lst (.str x0 :: M))) (c / 12 / ((V.str x0 :: M).length : Int) % ((V.str x0 :: M).length : Int)) (.val (.str y)) ∧ (0 < ((V.str x0 :: M).length : Int)) ∧ (0 < ((V.str x0 :: M).length : Int) ∧ ((V.str x0 :: M).length : Int) < 2 ^ 29) ∧ Pick (.val (.lst (.str x0 :: M))) (c / 12 % ((V.str x0 :: M).length : Int)) (.val (.str x)) ∧ (0 < ((V.str x0 :: M).length : Int)) ∧ ((0 : Int) < 12 ∧ (12 : Int) < 2 ^ 29) ∧ (O.val (.int (c % 12)) = .val (.int 7)) ∧ ((0 : Int) < 12) ∧ True) (by kernel_rfl) ⟨by decide, by decide, hy, hL.1, hL, hx, hL.1, by decide, by rw [hk], by decide, trivial⟩ h⟩
theorem tb_join7 {c : Int} {S : List V} {a b : V} (hL : 0 < ((V.str x0 :: M).length : Int) ∧ ((V.str x0 :: M).length : Int) < 2 ^ 29) (hx : Pick (.val (.lst (.str x0 :: M))) (c / 12 % ((V.str x0 :: M).length : Int)) (.val (.str x))) (hy : Pick (.val (.lst (.str x0 :: M))) (c / 12 / ((V.str x0 :: M).length : Int) % ((V.str x0 :: M).length : Int)) (.val (.str y))) (hk : c % 12 = 7) : TT d C x0 M c (a :: b :: S) (.tup [.str z_plus, b, a] :: S) x3 x4 x5 x6 x7 x8 :=
  ⟨some (.val (.int c)), some (.val (.int 7)), some (.val (.int (c / 12))), some (.val (.str x)), some (.val (.str y)), some (.val a), fun l fl ρ' h => for_go (i := 3) (tp := [.r (.val (.int 7)), .r (.val (.str x)), .r (.val (.str y)), .r (.val (.tup [.str z_plus, b, a]))]) (by kernel_rfl) (by kernel_rfl) (P := CallOK G (d + 1) 61 [.int 7, .str x, b, a] (.val (.tup [.str z_plus, b, a])) ∧ Pick (.val (.lst (.str x0 :: M))) (c / 12 / ((V.str x0 :: M).length : Int) % ((V.str x0 :: M).length : Int)) (.val (.str y)) ∧ (0 < ((V.str x0 :: M).length : Int)) ∧ (0 < ((V.str x0 :: M).length : Int) ∧ ((V.str x0 :: M).length : Int) < 2 ^ 29) ∧ Pick (.val (.lst (.str x0 :: M))) (c / 12 % ((V.str x0 :: M).length : Int)) (.val (.str x)) ∧ (0 < ((V.str x0 :: M).length : Int)) ∧ ((0 : Int) < 12 ∧ (12 : Int) < 2 ^ 29) ∧ (O.val (.int (c % 12)) = .val (.int 7)) ∧ ((0 : Int) < 12) ∧ True) (by kernel_rfl) ⟨ok_join7 b a, hy, hL.1, hL, hx, hL.1, by decide, by rw [hk], by decide, trivial⟩ h⟩
theorem tb_plus8 {c : Int} {a : V} (hL : 0 < ((V.str x0 :: M).length : Int) ∧ ((V.str x0 :: M).length : Int) < 2 ^ 29) (hx : Pick (.val (.lst (.str x0 :: M))) (c / 12 % ((V.str x0 :: M).length : Int)) (.val (.str x))) (hy : Pick (.val (.lst (.str x0 :: M))) (c / 12 / ((V.str x0 :: M).length : Int) % ((V.str x0 :: M).length : Int)) (.val (.str y))) (hk : c % 12 = 8) : TT d C x0 M c [a] [.tup [.str z_plus, .tup [.str z_num, .int (c / 12 % (10 : Int) ^ (60 : Int).toNat)], a]] x3 x4 x5 x6 x7 x8 :=
  ⟨some (.val (.int c)), some (.val (.int 8)), some (.val (.int (c / 12))), some (.val (.str x)), some (.val (.str y)), x8, fun l fl ρ' h => for_go (i := 3) (tp := [.r (.val (.int 8)), .r (.val (.str x)), .r (.val (.str y))]) (by kernel_rfl) (by kernel_rfl) (P := ((0 : Int) < (10 : Int) ^ (60 : Int).toNat) ∧ ((10 : Int) = 10 ∧ (0 : Int) < 60 ∧ (60 : Int) ≤ 100) ∧ Pick (.val (.lst (.str x0 :: M))) (c / 12 / ((V.str x0 :: M).length : Int) % ((V.str x0 :: M).length : Int)) (.val (.str y)) ∧ (0 < ((V.str x0 :: M).length : Int)) ∧ (0 < ((V.str x0 :: M).length : Int) ∧ ((V.str x0 :: M).length : Int) < 2 ^ 29) ∧ Pick (.val (.lst (.str x0 :: M))) (c / 12 % ((V.str x0 :: M).length : Int)) (.val (.str x)) ∧ (0 < ((V.str x0 :: M).length : Int)) ∧ ((0 : Int) < 12 ∧ (12 : Int) < 2 ^ 29) ∧ (O.val (.int (c % 12)) = .val (.int 8)) ∧ ((0 : Int) < 12) ∧ True) (by kernel_rfl) ⟨by decide, by decide, hy, hL.1, hL, hx, hL.1, by decide, by rw [hk], by decide, trivial⟩ h⟩
theorem tb_join8 {c : Int} {S : List V} {a b : V} (hL : 0 < ((V.str x0 :: M).length : Int) ∧ ((V.str x0 :: M).length : Int) < 2 ^ 29) (hx : Pick (.val (.lst (.str x0 :: M))) (c / 12 % ((V.str x0 :: M).length : Int)) (.val (.str x))) (hy : Pick (.val (.lst (.str x0 :: M))) (c / 12 / ((V.str x0 :: M).length : Int) % ((V.str x0 :: M).length : Int)) (.val (.str y))) (hk : c % 12 = 8) : TT d C x0 M c (a :: b :: S) (.tup [.str z_less, b, a] :: S) x3 x4 x5 x6 x7 x8 :=
  ⟨some (.val (.int c)), some (.val (.int 8)), some (.val (.int (c / 12))), some (.val (.str x)), some (.val (.str y)), some (.val a), fun l fl ρ' h => for_go (i := 3) (tp := [.r (.val (.int 8)), .r (.val (.str x)), .r (.val (.str y)), .r (.val (.tup [.str z_less, b, a]))]) (by kernel_rfl) (by kernel_rfl) (P := CallOK G (d + 1) 61 [.int 8, .str x, b, a] (.val (.tup [.str z_less, b, a])) ∧ Pick (.val (.lst (.str x0 :: M))) (c / 12 / ((V.str x0 :: M).length : Int) % ((V.str x0 :: M).length : Int)) (.val (.str y)) ∧ (0 < ((V.str x0 :: M).length : Int)) ∧ (0 < ((V.str x0 :: M).length : Int) ∧ ((V.str x0 :: M).length : Int) < 2 ^ 29) ∧ Pick (.val (.lst (.str x0 :: M))) (c / 12 % ((V.str x0 :: M).length : Int)) (.val (.str x)) ∧ (0 < ((V.str x0 :: M).length : Int)) ∧ ((0 : Int) < 12 ∧ (12 : Int) < 2 ^ 29) ∧ (O.val (.int (c % 12)) = .val (.int 8)) ∧ ((0 : Int) < 12) ∧ True) (by kernel_rfl) ⟨ok_join8 b a, hy, hL.1, hL, hx, hL.1, by decide, by rw [hk], by decide, trivial⟩ h⟩
theorem tb_plus9 {c : Int} {a : V} (hL : 0 < ((V.str x0 :: M).length : Int) ∧ ((V.str x0 :: M).length : Int) < 2 ^ 29) (hx : Pick (.val (.lst (.str x0 :: M))) (c / 12 % ((V.str x0 :: M).length : Int)) (.val (.str x))) (hy : Pick (.val (.lst (.str x0 :: M))) (c / 12 / ((V.str x0 :: M).length : Int) % ((V.str x0 :: M).length : Int)) (.val (.str y))) (hk : c % 12 = 9) : TT d C x0 M c [a] [.tup [.str z_plus, .tup [.str z_num, .int (c / 12 % (10 : Int) ^ (60 : Int).toNat)], a]] x3 x4 x5 x6 x7 x8 :=
  ⟨some (.val (.int c)), some (.val (.int 9)), some (.val (.int (c / 12))), some (.val (.str x)), some (.val (.str y)), x8, fun l fl ρ' h => for_go (i := 3) (tp := [.r (.val (.int 9)), .r (.val (.str x)), .r (.val (.str y))]) (by kernel_rfl) (by kernel_rfl) (P := ((0 : Int) < (10 : Int) ^ (60 : Int).toNat) ∧ ((10 : Int) = 10 ∧ (0 : Int) < 60 ∧ (60 : Int) ≤ 100) ∧ Pick (.val (.lst (.str x0 :: M))) (c / 12 / ((V.str x0 :: M).length : Int) % ((V.str x0 :: M).length : Int)) (.val (.str y)) ∧ (0 < ((V.str x0 :: M).length : Int)) ∧ (0 < ((V.str x0 :: M).length : Int) ∧ ((V.str x0 :: M).length : Int) < 2 ^ 29) ∧ Pick (.val (.lst (.str x0 :: M))) (c / 12 % ((V.str x0 :: M).length : Int)) (.val (.str x)) ∧ (0 < ((V.str x0 :: M).length : Int)) ∧ ((0 : Int) < 12 ∧ (12 : Int) < 2 ^ 29) ∧ (O.val (.int (c % 12)) = .val (.int 9)) ∧ ((0 : Int) < 12) ∧ True) (by kernel_rfl) ⟨by decide, by decide, hy, hL.1, hL, hx, hL.1, by decide, by rw [hk], by decide, trivial⟩ h⟩
theorem tb_join9 {c : Int} {S : List V} {a b : V} (hL : 0 < ((V.str x0 :: M).length : Int) ∧ ((V.str x0 :: M).length : Int) < 2 ^ 29) (hx : Pick (.val (.lst (.str x0 :: M))) (c / 12 % ((V.str x0 :: M).length : Int)) (.val (.str x))) (hy : Pick (.val (.lst (.str x0 :: M))) (c / 12 / ((V.str x0 :: M).length : Int) % ((V.str x0 :: M).length : Int)) (.val (.str y))) (hk : c % 12 = 9) : TT d C x0 M c (a :: b :: S) (.tup [.str z_if, b, a, .tup [.str z_name, .str x]] :: S) x3 x4 x5 x6 x7 x8 :=
  ⟨some (.val (.int c)), some (.val (.int 9)), some (.val (.int (c / 12))), some (.val (.str x)), some (.val (.str y)), some (.val a), fun l fl ρ' h => for_go (i := 3) (tp := [.r (.val (.int 9)), .r (.val (.str x)), .r (.val (.str y)), .r (.val (.tup [.str z_if, b, a, .tup [.str z_name, .str x]]))]) (by kernel_rfl) (by kernel_rfl) (P := CallOK G (d + 1) 61 [.int 9, .str x, b, a] (.val (.tup [.str z_if, b, a, .tup [.str z_name, .str x]])) ∧ Pick (.val (.lst (.str x0 :: M))) (c / 12 / ((V.str x0 :: M).length : Int) % ((V.str x0 :: M).length : Int)) (.val (.str y)) ∧ (0 < ((V.str x0 :: M).length : Int)) ∧ (0 < ((V.str x0 :: M).length : Int) ∧ ((V.str x0 :: M).length : Int) < 2 ^ 29) ∧ Pick (.val (.lst (.str x0 :: M))) (c / 12 % ((V.str x0 :: M).length : Int)) (.val (.str x)) ∧ (0 < ((V.str x0 :: M).length : Int)) ∧ ((0 : Int) < 12 ∧ (12 : Int) < 2 ^ 29) ∧ (O.val (.int (c % 12)) = .val (.int 9)) ∧ ((0 : Int) < 12) ∧ True) (by kernel_rfl) ⟨ok_join9 b a, hy, hL.1, hL, hx, hL.1, by decide, by rw [hk], by decide, trivial⟩ h⟩
theorem tb_plus10 {c : Int} {a : V} (hL : 0 < ((V.str x0 :: M).length : Int) ∧ ((V.str x0 :: M).length : Int) < 2 ^ 29) (hx : Pick (.val (.lst (.str x0 :: M))) (c / 12 % ((V.str x0 :: M).length : Int)) (.val (.str x))) (hy : Pick (.val (.lst (.str x0 :: M))) (c / 12 / ((V.str x0 :: M).length : Int) % ((V.str x0 :: M).length : Int)) (.val (.str y))) (hk : c % 12 = 10) : TT d C x0 M c [a] [.tup [.str z_plus, .tup [.str z_num, .int (c / 12 % (10 : Int) ^ (60 : Int).toNat)], a]] x3 x4 x5 x6 x7 x8 :=
  ⟨some (.val (.int c)), some (.val (.int 10)), some (.val (.int (c / 12))), some (.val (.str x)), some (.val (.str y)), x8, fun l fl ρ' h => for_go (i := 3) (tp := [.r (.val (.int 10)), .r (.val (.str x)), .r (.val (.str y))]) (by kernel_rfl) (by kernel_rfl) (P := ((0 : Int) < (10 : Int) ^ (60 : Int).toNat) ∧ ((10 : Int) = 10 ∧ (0 : Int) < 60 ∧ (60 : Int) ≤ 100) ∧ Pick (.val (.lst (.str x0 :: M))) (c / 12 / ((V.str x0 :: M).length : Int) % ((V.str x0 :: M).length : Int)) (.val (.str y)) ∧ (0 < ((V.str x0 :: M).length : Int)) ∧ (0 < ((V.str x0 :: M).length : Int) ∧ ((V.str x0 :: M).length : Int) < 2 ^ 29) ∧ Pick (.val (.lst (.str x0 :: M))) (c / 12 % ((V.str x0 :: M).length : Int)) (.val (.str x)) ∧ (0 < ((V.str x0 :: M).length : Int)) ∧ ((0 : Int) < 12 ∧ (12 : Int) < 2 ^ 29) ∧ (O.val (.int (c % 12)) = .val (.int 10)) ∧ ((0 : Int) < 12) ∧ True) (by kernel_rfl) ⟨by decide, by decide, hy, hL.1, hL, hx, hL.1, by decide, by rw [hk], by decide, trivial⟩ h⟩
theorem tb_join10 {c : Int} {S : List V} {a b : V} (hL : 0 < ((V.str x0 :: M).length : Int) ∧ ((V.str x0 :: M).length : Int) < 2 ^ 29) (hx : Pick (.val (.lst (.str x0 :: M))) (c / 12 % ((V.str x0 :: M).length : Int)) (.val (.str x))) (hy : Pick (.val (.lst (.str x0 :: M))) (c / 12 / ((V.str x0 :: M).length : Int) % ((V.str x0 :: M).length : Int)) (.val (.str y))) (hk : c % 12 = 10) : TT d C x0 M c (a :: b :: S) (.tup [.str z_let, .str x, b, a] :: S) x3 x4 x5 x6 x7 x8 :=
  ⟨some (.val (.int c)), some (.val (.int 10)), some (.val (.int (c / 12))), some (.val (.str x)), some (.val (.str y)), some (.val a), fun l fl ρ' h => for_go (i := 3) (tp := [.r (.val (.int 10)), .r (.val (.str x)), .r (.val (.str y)), .r (.val (.tup [.str z_let, .str x, b, a]))]) (by kernel_rfl) (by kernel_rfl) (P := CallOK G (d + 1) 61 [.int 10, .str x, b, a] (.val (.tup [.str z_let, .str x, b, a])) ∧ Pick (.val (.lst (.str x0 :: M))) (c / 12 / ((V.str x0 :: M).length : Int) % ((V.str x0 :: M).length : Int)) (.val (.str y)) ∧ (0 < ((V.str x0 :: M).length : Int)) ∧ (0 < ((V.str x0 :: M).length : Int) ∧ ((V.str x0 :: M).length : Int) < 2 ^ 29) ∧ Pick (.val (.lst (.str x0 :: M))) (c / 12 % ((V.str x0 :: M).length : Int)) (.val (.str x)) ∧ (0 < ((V.str x0 :: M).length : Int)) ∧ ((0 : Int) < 12 ∧ (12 : Int) < 2 ^ 29) ∧ (O.val (.int (c % 12)) = .val (.int 10)) ∧ ((0 : Int) < 12) ∧ True) (by kernel_rfl) ⟨ok_join10 b a, hy, hL.1, hL, hx, hL.1, by decide, by rw [hk], by decide, trivial⟩ h⟩
theorem szs_cons (t : Mine.Tree) (ts : List Mine.Tree) : szs (t :: ts) = sz t + szs ts := rfl
theorem tb_turn {nl : List (List Nat)} (hM : M = nl.map .str) (hn : nl.length < 100) (c : Int) (ts : List Mine.Tree) (hs : szs ts < 1000) (hi : ∀ t ∈ ts, nmIn (x0 :: nl) t) : ∃ ts' : List Mine.Tree, szs ts' ≤ szs ts + 4 ∧ (∀ t ∈ ts', nmIn (x0 :: nl) t) ∧ TT d C x0 M c (ts.map tv) (ts'.map tv) x3 x4 x5 x6 x7 x8 := by
  obtain ⟨x, ix, hx⟩ := pickN x0 nl (c / 12)
  obtain ⟨y, iy, hy⟩ := pickN x0 nl (c / 12 / ((V.str x0 :: nl.map V.str).length : Int))
  subst hM
  have hL : 0 < ((V.str x0 :: nl.map V.str).length : Int) ∧ ((V.str x0 :: nl.map V.str).length : Int) < 2 ^ 29 := by rw [List.length_cons, List.length_map]; omega
  have hl := szs_len ts
  have hS : (ts.map tv).length < room := by rw [List.length_map]; show ts.length < 1000000; omega
  obtain ⟨k, hk, h⟩ := mod_cases c 12 (by decide)
  have h : c % 12 = (k : Int) := h
  have cons : ∀ {t : Mine.Tree} {ts : List Mine.Tree}, nmIn (x0 :: nl) t → (∀ t ∈ ts, nmIn (x0 :: nl) t) → ∀ u ∈ t :: ts, nmIn (x0 :: nl) u := fun a b u hu => by
    rcases List.mem_cons.mp hu with rfl | hu
    · exact a
    · exact b u hu
  have none : ∀ u ∈ ([] : List Mine.Tree), nmIn (x0 :: nl) u := fun u hu => by cases hu
  have inx : nmIn (x0 :: nl) (.name x) := ix
  have iny : nmIn (x0 :: nl) (.name y) := iy
  have inn : ∀ i, nmIn (x0 :: nl) (.num i) := fun _ => trivial
  match k, hk, h, ts, hi with
  | 0, _, h, ts, hi => exact ⟨.name x :: ts, by rw [szs_cons]; show 1 + szs ts ≤ _; omega, cons inx hi, tb_name0 hL hx hy h hS⟩
  | 1, _, h, [], hi => exact ⟨[.name x], by rw [szs_cons]; show 1 + 0 ≤ 0 + 4; omega, cons inx none, tb_name1 hL hx hy h⟩
  | 3, _, h, [], hi => exact ⟨[.name x], by rw [szs_cons]; show 1 + 0 ≤ 0 + 4; omega, cons inx none, tb_name3 hL hx hy h⟩
  | 5, _, h, [], hi => exact ⟨[.name x], by rw [szs_cons]; show 1 + 0 ≤ 0 + 4; omega, cons inx none, tb_name5 hL hx hy h⟩
  | 7, _, h, [], hi => exact ⟨[.name x], by rw [szs_cons]; show 1 + 0 ≤ 0 + 4; omega, cons inx none, tb_name7 hL hx hy h⟩
  | 9, _, h, [], hi => exact ⟨[.name x], by rw [szs_cons]; show 1 + 0 ≤ 0 + 4; omega, cons inx none, tb_name9 hL hx hy h⟩
  | 11, _, h, [], hi => exact ⟨[.name x], by rw [szs_cons]; show 1 + 0 ≤ 0 + 4; omega, cons inx none, tb_name11 hL hx hy h⟩
  | 2, _, h, [], hi => exact ⟨[.num (c / 12 % (2 * (10 : Int) ^ (60 : Int).toNat - 1) - (10 : Int) ^ (60 : Int).toNat + 1)], by rw [szs_cons]; show 1 + 0 ≤ 0 + 4; omega, cons (inn _) none, tb_num2n hL hx hy h⟩
  | 4, _, h, [], hi => exact ⟨[.num (c / 12 % (2 * (10 : Int) ^ (60 : Int).toNat - 1) - (10 : Int) ^ (60 : Int).toNat + 1)], by rw [szs_cons]; show 1 + 0 ≤ 0 + 4; omega, cons (inn _) none, tb_num4n hL hx hy h⟩
  | 6, _, h, [], hi => exact ⟨[.num (c / 12 % (2 * (10 : Int) ^ (60 : Int).toNat - 1) - (10 : Int) ^ (60 : Int).toNat + 1)], by rw [szs_cons]; show 1 + 0 ≤ 0 + 4; omega, cons (inn _) none, tb_num6n hL hx hy h⟩
  | 8, _, h, [], hi => exact ⟨[.num (c / 12 % (2 * (10 : Int) ^ (60 : Int).toNat - 1) - (10 : Int) ^ (60 : Int).toNat + 1)], by rw [szs_cons]; show 1 + 0 ≤ 0 + 4; omega, cons (inn _) none, tb_num8n hL hx hy h⟩
  | 10, _, h, [], hi => exact ⟨[.num (c / 12 % (2 * (10 : Int) ^ (60 : Int).toNat - 1) - (10 : Int) ^ (60 : Int).toNat + 1)], by rw [szs_cons]; show 1 + 0 ≤ 0 + 4; omega, cons (inn _) none, tb_num10n hL hx hy h⟩
  | 1, _, h, t :: ts, hi => exact ⟨.num (c / 12 % (2 * (10 : Int) ^ (60 : Int).toNat - 1) - (10 : Int) ^ (60 : Int).toNat + 1) :: t :: ts, by rw [szs_cons]; show 1 + szs (t :: ts) ≤ _; omega, cons (inn _) hi, tb_num1 hL hx hy h hS⟩
  | 2, _, h, t :: ts, hi => exact ⟨.num (c / 12 % (2 * (10 : Int) ^ (60 : Int).toNat - 1) - (10 : Int) ^ (60 : Int).toNat + 1) :: t :: ts, by rw [szs_cons]; show 1 + szs (t :: ts) ≤ _; omega, cons (inn _) hi, tb_num2 hL hx hy h hS⟩
  | 3, _, h, t :: ts, hi => exact ⟨.fn x t :: ts, by rw [szs_cons, szs_cons]; show sz t + 1 + szs ts ≤ _; omega, cons (show nmIn (x0 :: nl) (.fn x t) from hi t List.mem_cons_self) (fun u hu => hi u (List.mem_cons_of_mem _ hu)), tb_fun hL hx hy h⟩
  | 4, _, h, t :: ts, hi => exact ⟨.call (.fn x t) (.name x) :: ts, by rw [szs_cons, szs_cons]; show sz t + 1 + 1 + 1 + szs ts ≤ _; omega, cons (show nmIn (x0 :: nl) (.call (.fn x t) (.name x)) from ⟨hi t List.mem_cons_self, inx⟩) (fun u hu => hi u (List.mem_cons_of_mem _ hu)), tb_call hL hx hy h⟩
  | 5, _, h, t :: ts, hi => exact ⟨.lt x t (.call (.name x) (.name y)) :: ts, by rw [szs_cons, szs_cons]; show sz t + (1 + 1 + 1) + 1 + szs ts ≤ _; omega, cons (show nmIn (x0 :: nl) (.lt x t (.call (.name x) (.name y))) from ⟨hi t List.mem_cons_self, inx, iny⟩) (fun u hu => hi u (List.mem_cons_of_mem _ hu)), tb_let hL hx hy h⟩
  | 11, _, h, t :: ts, hi => exact ⟨.fn x (.call (.name x) (.name y)) :: t :: ts, by rw [szs_cons]; show 1 + 1 + 1 + 1 + szs (t :: ts) ≤ _; omega, cons (show nmIn (x0 :: nl) (.fn x (.call (.name x) (.name y))) from ⟨inx, iny⟩) hi, tb_push hL hx hy h hS⟩
  | 6, _, h, [t], hi => exact ⟨[.plus (.num (c / 12 % (10 : Int) ^ (60 : Int).toNat)) t], by rw [szs_cons, szs_cons]; show 1 + sz t + 1 + 0 ≤ sz t + 0 + 4; omega, cons (show nmIn (x0 :: nl) (.plus (.num (c / 12 % (10 : Int) ^ (60 : Int).toNat)) t) from ⟨trivial, hi t List.mem_cons_self⟩) none, tb_plus6 hL hx hy h⟩
  | 6, _, h, t :: u :: ts, hi => have it := hi t List.mem_cons_self; have iu := hi u (List.mem_cons_of_mem _ List.mem_cons_self); exact ⟨.call (.fn x u) t :: ts, by rw [szs_cons, szs_cons, szs_cons]; show sz u + 1 + sz t + 1 + szs ts ≤ _; omega, cons (show nmIn (x0 :: nl) (.call (.fn x u) t) from ⟨iu, it⟩) (fun v hv => hi v (List.mem_cons_of_mem _ (List.mem_cons_of_mem _ hv))), tb_join6 hL hx hy h⟩
  | 7, _, h, [t], hi => exact ⟨[.plus (.num (c / 12 % (10 : Int) ^ (60 : Int).toNat)) t], by rw [szs_cons, szs_cons]; show 1 + sz t + 1 + 0 ≤ sz t + 0 + 4; omega, cons (show nmIn (x0 :: nl) (.plus (.num (c / 12 % (10 : Int) ^ (60 : Int).toNat)) t) from ⟨trivial, hi t List.mem_cons_self⟩) none, tb_plus7 hL hx hy h⟩
  | 7, _, h, t :: u :: ts, hi => have it := hi t List.mem_cons_self; have iu := hi u (List.mem_cons_of_mem _ List.mem_cons_self); exact ⟨.plus u t :: ts, by rw [szs_cons, szs_cons, szs_cons]; show sz u + sz t + 1 + szs ts ≤ _; omega, cons (show nmIn (x0 :: nl) (.plus u t) from ⟨iu, it⟩) (fun v hv => hi v (List.mem_cons_of_mem _ (List.mem_cons_of_mem _ hv))), tb_join7 hL hx hy h⟩
  | 8, _, h, [t], hi => exact ⟨[.plus (.num (c / 12 % (10 : Int) ^ (60 : Int).toNat)) t], by rw [szs_cons, szs_cons]; show 1 + sz t + 1 + 0 ≤ sz t + 0 + 4; omega, cons (show nmIn (x0 :: nl) (.plus (.num (c / 12 % (10 : Int) ^ (60 : Int).toNat)) t) from ⟨trivial, hi t List.mem_cons_self⟩) none, tb_plus8 hL hx hy h⟩
  | 8, _, h, t :: u :: ts, hi => have it := hi t List.mem_cons_self; have iu := hi u (List.mem_cons_of_mem _ List.mem_cons_self); exact ⟨.less u t :: ts, by rw [szs_cons, szs_cons, szs_cons]; show sz u + sz t + 1 + szs ts ≤ _; omega, cons (show nmIn (x0 :: nl) (.less u t) from ⟨iu, it⟩) (fun v hv => hi v (List.mem_cons_of_mem _ (List.mem_cons_of_mem _ hv))), tb_join8 hL hx hy h⟩
  | 9, _, h, [t], hi => exact ⟨[.plus (.num (c / 12 % (10 : Int) ^ (60 : Int).toNat)) t], by rw [szs_cons, szs_cons]; show 1 + sz t + 1 + 0 ≤ sz t + 0 + 4; omega, cons (show nmIn (x0 :: nl) (.plus (.num (c / 12 % (10 : Int) ^ (60 : Int).toNat)) t) from ⟨trivial, hi t List.mem_cons_self⟩) none, tb_plus9 hL hx hy h⟩
  | 9, _, h, t :: u :: ts, hi => have it := hi t List.mem_cons_self; have iu := hi u (List.mem_cons_of_mem _ List.mem_cons_self); exact ⟨.ite u t (.name x) :: ts, by rw [szs_cons, szs_cons, szs_cons]; show sz u + sz t + 1 + 1 + szs ts ≤ _; omega, cons (show nmIn (x0 :: nl) (.ite u t (.name x)) from ⟨iu, it, inx⟩) (fun v hv => hi v (List.mem_cons_of_mem _ (List.mem_cons_of_mem _ hv))), tb_join9 hL hx hy h⟩
  | 10, _, h, [t], hi => exact ⟨[.plus (.num (c / 12 % (10 : Int) ^ (60 : Int).toNat)) t], by rw [szs_cons, szs_cons]; show 1 + sz t + 1 + 0 ≤ sz t + 0 + 4; omega, cons (show nmIn (x0 :: nl) (.plus (.num (c / 12 % (10 : Int) ^ (60 : Int).toNat)) t) from ⟨trivial, hi t List.mem_cons_self⟩) none, tb_plus10 hL hx hy h⟩
  | 10, _, h, t :: u :: ts, hi => have it := hi t List.mem_cons_self; have iu := hi u (List.mem_cons_of_mem _ List.mem_cons_self); exact ⟨.lt x u t :: ts, by rw [szs_cons, szs_cons, szs_cons]; show sz u + sz t + 1 + szs ts ≤ _; omega, cons (show nmIn (x0 :: nl) (.lt x u t) from ⟨iu, it⟩) (fun v hv => hi v (List.mem_cons_of_mem _ (List.mem_cons_of_mem _ hv))), tb_join10 hL hx hy h⟩
theorem tb_for {nl : List (List Nat)} (hM : M = nl.map .str) (hn : nl.length < 100) : ∀ (cs : List Int) (ts : List Mine.Tree) (x3 x4 x5 x6 x7 x8 : Option O), szs ts + 4 * cs.length < 1000 → (∀ t ∈ ts, nmIn (x0 :: nl) t) → ∃ (ts' : List Mine.Tree) (y3 y4 y5 y6 y7 y8 : Option O), szs ts' ≤ szs ts + 4 * cs.length ∧ (∀ t ∈ ts', nmIn (x0 :: nl) t) ∧ TF d (cs.map .int) (gst C (.lst (.str x0 :: M)) (ts.map tv) x3 x4 x5 x6 x7 x8) .next (gst C (.lst (.str x0 :: M)) (ts'.map tv) y3 y4 y5 y6 y7 y8)
  | [], ts, x3, x4, x5, x6, x7, x8, h, hi => ⟨ts, x3, x4, x5, x6, x7, x8, Nat.le_refl _, hi, for_nil⟩
  | c :: cs, ts, x3, x4, x5, x6, x7, x8, h, hi => by
    rw [List.length_cons] at h
    obtain ⟨t1, h1, i1, z3, z4, z5, z6, z7, z8, h2⟩ := tb_turn (d := d) (C := C) (x0 := x0) (x3 := x3) (x4 := x4) (x5 := x5) (x6 := x6) (x7 := x7) (x8 := x8) hM hn c ts (by omega) hi
    obtain ⟨t2, y3, y4, y5, y6, y7, y8, h3, i3, h4⟩ := tb_for hM hn cs t1 z3 z4 z5 z6 z7 z8 (by omega) i1
    exact ⟨t2, y3, y4, y5, y6, y7, y8, by rw [List.length_cons]; omega, i3, h2 _ _ _ h4⟩
abbrev TW (d : Nat) (ρ : Loc) (Φ : Fl → Loc → Prop) : Prop := WhP (c__law_tree_by_88 d) (l__law_tree_by_88 d) ρ Φ
set_option maxHeartbeats 2000000 in
theorem tb_while {Φ : Fl → Loc → Prop} {nl : List (List Nat)} (hM : M = nl.map .str) (hn : nl.length < 100) : ∀ (n : Nat) (ts : List Mine.Tree) (t : Mine.Tree) (x3 x4 x5 x6 x7 x8 : Option O), ts.length = n → (∀ u ∈ t :: ts, nmIn (x0 :: nl) u) → (∀ t' y3 y4 y5 y6 y7 y8, nmIn (x0 :: nl) t' → sz t' ≤ sz t + szs ts + ts.length → TW (d + 1) (gst C (.lst (.str x0 :: M)) [tv t'] y3 y4 y5 y6 y7 y8) Φ) → TW (d + 1) (gst C (.lst (.str x0 :: M)) ((t :: ts).map tv) x3 x4 x5 x6 x7 x8) Φ
  | 0, [], t, x3, x4, x5, x6, x7, x8, _, hi, k => k t _ _ _ _ _ _ (hi t List.mem_cons_self) (by omega)
  | n + 1, u :: ts, t, x3, x4, x5, x6, x7, x8, hl, hi, k => by
    obtain ⟨x, ix, hx⟩ := pickN x0 nl ((tv u :: ts.map tv).length : Int)
    have hL : 0 < ((V.str x0 :: M).length : Int) := by rw [List.length_cons]; omega
    rw [← hM] at hx
    refine whp_go true (tp := [.b true, .r (.val (.str x))]) (ρ' := gst C (.lst (.str x0 :: M)) ((.lt x u t :: ts).map tv) x3 x4 x5 x6 x7 (some (.val (tv t)))) (by kernel_rfl) (P := Pick (.val (.lst (.str x0 :: M))) (((tv u :: ts.map tv).length : Int) % ((V.str x0 :: M).length : Int)) (.val (.str x)) ∧ (0 < ((V.str x0 :: M).length : Int)) ∧ decide (((tv t :: tv u :: ts.map tv).length : Int) > 1) = true ∧ True) (by kernel_rfl) ⟨hx, hL, by simp only [List.length_cons]; rw [decide_eq_true_eq]; omega, trivial⟩ ?_
    refine tb_while hM hn n ts (.lt x u t) _ _ _ _ _ _ (by simpa using hl) (fun v hv => ?_) fun t' y3 y4 y5 y6 y7 y8 it ht => k t' _ _ _ _ _ _ it ?_
    · rcases List.mem_cons.mp hv with rfl | hv
      · exact ⟨hi u (List.mem_cons_of_mem _ List.mem_cons_self), hi t List.mem_cons_self⟩
      · exact hi v (List.mem_cons_of_mem _ (List.mem_cons_of_mem _ hv))
    have : sz (.lt x u t) = sz u + sz t + 1 := rfl
    rw [szs_cons, List.length_cons]
    omega
theorem ok_tree (nl : List (List Nat)) (hn : nl.length < 100) (cs : List Int) (hc : cs.length ≤ 63) : ∃ t : Mine.Tree, sz t ≤ 600 ∧ nmIn (x0 :: nl) t ∧ CallOK G (d + 2) 68 [.lst (cs.map .int), .lst (.str x0 :: nl.map .str)] (.val (tv t)) := by
  obtain ⟨ts, y3, y4, y5, y6, y7, y8, h1, hi, h2⟩ := tb_for (d := d) (C := .lst (cs.map .int)) (x0 := x0) (nl := nl) rfl hn cs [] none none none none none none (by show 0 + 4 * cs.length < 1000; omega) (fun u hu => by cases hu)
  have h1 : szs ts ≤ 0 + 4 * cs.length := h1
  have hl := szs_len ts
  cases ts with
  | nil =>
    have hw : WhilOK G (d + 1) fi__law_tree_by (c__law_tree_by_88 (d + 1)).x (l__law_tree_by_88 (d + 1)).xs (gst (.lst (cs.map .int)) (.lst (.str x0 :: nl.map .str)) [] y3 y4 y5 y6 y7 y8) .next (gst (.lst (cs.map .int)) (.lst (.str x0 :: nl.map .str)) [] y3 y4 y5 y6 y7 y8) :=
      whil_end false (tp := []) (by kernel_rfl) (P := True) (by kernel_rfl) trivial
    exact ⟨.name x0, by show 1 ≤ 600; omega, show x0 ∈ x0 :: nl from List.mem_cons_self, call_go (n := 7) (tp := [.l .next (gst (.lst (cs.map .int)) (.lst (.str x0 :: nl.map .str)) [] y3 y4 y5 y6 y7 y8), .l .next (gst (.lst (cs.map .int)) (.lst (.str x0 :: nl.map .str)) [] y3 y4 y5 y6 y7 y8)]) (b__law_tree_by (d + 1)) rfl (b__law_tree_by_x (d + 1)) rfl (by kernel_rfl) (P := WhilOK G (d + 1) fi__law_tree_by (c__law_tree_by_88 (d + 1)).x (l__law_tree_by_88 (d + 1)).xs (gst (.lst (cs.map .int)) (.lst (.str x0 :: nl.map .str)) [] y3 y4 y5 y6 y7 y8) .next (gst (.lst (cs.map .int)) (.lst (.str x0 :: nl.map .str)) [] y3 y4 y5 y6 y7 y8) ∧ TF d (cs.map .int) (gst (.lst (cs.map .int)) (.lst (.str x0 :: nl.map .str)) [] none none none none none none) .next (gst (.lst (cs.map .int)) (.lst (.str x0 :: nl.map .str)) [] y3 y4 y5 y6 y7 y8) ∧ True) (by kernel_rfl) ⟨hw, h2, trivial⟩⟩
  | cons t ts =>
    obtain ⟨fl, ρ, hw, rfl, t', z3, z4, z5, z6, z7, z8, it, hz, rfl⟩ := tb_while (d := d) (C := .lst (cs.map .int)) (x0 := x0) (nl := nl) (Φ := fun fl ρ => fl = .next ∧ ∃ t' z3 z4 z5 z6 z7 z8, nmIn (x0 :: nl) t' ∧ sz t' ≤ sz t + szs ts + ts.length ∧ ρ = gst (.lst (cs.map .int)) (.lst (.str x0 :: nl.map .str)) [tv t'] z3 z4 z5 z6 z7 z8) rfl hn ts.length ts t y3 y4 y5 y6 y7 y8 rfl hi
      fun t' z3 z4 z5 z6 z7 z8 it hz => whp_end false (tp := []) (by kernel_rfl) (P := True) (by kernel_rfl) trivial ⟨rfl, t', z3, z4, z5, z6, z7, z8, it, hz, rfl⟩
    rw [szs_cons] at h1
    rw [szs_cons, List.length_cons] at hl
    exact ⟨t', by omega, it, call_go (n := 7) (tp := [.l .next (gst (.lst (cs.map .int)) (.lst (.str x0 :: nl.map .str)) ((t :: ts).map tv) y3 y4 y5 y6 y7 y8), .l .next (gst (.lst (cs.map .int)) (.lst (.str x0 :: nl.map .str)) [tv t'] z3 z4 z5 z6 z7 z8)]) (b__law_tree_by (d + 1)) rfl (b__law_tree_by_x (d + 1)) rfl (by kernel_rfl) (P := WhilOK G (d + 1) fi__law_tree_by (c__law_tree_by_88 (d + 1)).x (l__law_tree_by_88 (d + 1)).xs (gst (.lst (cs.map .int)) (.lst (.str x0 :: nl.map .str)) ((t :: ts).map tv) y3 y4 y5 y6 y7 y8) .next (gst (.lst (cs.map .int)) (.lst (.str x0 :: nl.map .str)) [tv t'] z3 z4 z5 z6 z7 z8) ∧ TF d (cs.map .int) (gst (.lst (cs.map .int)) (.lst (.str x0 :: nl.map .str)) [] none none none none none none) .next (gst (.lst (cs.map .int)) (.lst (.str x0 :: nl.map .str)) ((t :: ts).map tv) y3 y4 y5 y6 y7 y8) ∧ True) (by kernel_rfl) ⟨hw, h2, trivial⟩⟩
end
end Mine
end

section
open PySem
set_option autoImplicit false
set_option maxRecDepth 100000
namespace Mine
open Mine.L01
noncomputable def lt26 (i : Int) : Nat := z_abcdefghijklmnopqrstuvwxyz.getD (i % 26).toNat 0
theorem letter (i : Int) : Pick (.val (.str z_abcdefghijklmnopqrstuvwxyz)) (i % 26) (.val (.str [lt26 i])) := by
  obtain ⟨k, hk, e1⟩ := mod_cases i 26 (by decide)
  have e1 : i % 26 = Int.ofNat k := e1
  have hl : k < z_abcdefghijklmnopqrstuvwxyz.length := hk
  unfold Pick lt26; rw [e1]
  show ((z_abcdefghijklmnopqrstuvwxyz[k]?).bind fun c => some (V.str [c])).bind (fun v => some (O.val v)) = some (O.val (V.str [z_abcdefghijklmnopqrstuvwxyz.getD k 0]))
  rw [List.getElem?_eq_getElem hl]
  simp [hl]
theorem lt26_inj {i j : Int} (h : lt26 i = lt26 j) : i % 26 = j % 26 := by
  obtain ⟨k, hk, e1⟩ := mod_cases i 26 (by decide)
  obtain ⟨l, hl, e2⟩ := mod_cases j 26 (by decide)
  have e1 : i % 26 = Int.ofNat k := e1
  have e2 : j % 26 = Int.ofNat l := e2
  unfold lt26 at h
  rw [e1, e2] at h ⊢
  have nd : ∀ a, a < 26 → ∀ b, b < 26 → z_abcdefghijklmnopqrstuvwxyz.getD a 0 = z_abcdefghijklmnopqrstuvwxyz.getD b 0 → a = b := by decide +kernel
  rw [nd k hk l hl h]
theorem cut_len (r : List Nat) (a b : Option Nat) : (cut r a b).length ≤ r.length := by
  unfold cut
  rw [List.length_drop]
  cases b with
  | none => exact Nat.sub_le _ _
  | some b => exact Nat.le_trans (Nat.sub_le _ _) (by rw [List.length_take]; exact Nat.min_le_right _ _)
section
variable {d : Nat}
theorem ok_cell (ns : List Int) (m : Nat) : ∃ c, CallOK G (d + 1) 42 [.lst (ns.map .int), .int (Int.ofNat m)] (.val (.int c)) := by
  by_cases h : m < ns.length
  · refine ⟨ns[m], call_go (n := 0) (tp := [.b true, .r (.val (.int ns[m]))]) (b__law_cell_at d) rfl (b__law_cell_at_x d) rfl (by kernel_rfl) (P := Pick (.val (.lst (ns.map .int))) (Int.ofNat m) (.val (.int ns[m])) ∧ decide ((Int.ofNat m) < ((ns.map V.int).length : Int)) = true ∧ True) (by kernel_rfl) ⟨?_, ?_, trivial⟩⟩
    · show ((ns.map V.int)[m]?).bind _ = _
      rw [List.getElem?_map, List.getElem?_eq_getElem h]; rfl
    · rw [List.length_map, decide_eq_true_eq]; exact Int.ofNat_lt.mpr h
  · refine ⟨0, call_go (n := 0) (tp := [.b false]) (b__law_cell_at d) rfl (b__law_cell_at_x d) rfl (by kernel_rfl) (P := decide ((Int.ofNat m) < ((ns.map V.int).length : Int)) = false ∧ True) (by kernel_rfl) ⟨?_, trivial⟩⟩
    rw [List.length_map, decide_eq_false_iff_not]; exact fun q => h (Int.ofNat_lt.mp q)
noncomputable abbrev mst (c : Int) (r : List Nat) (x3 : Option O) : Loc := [some (.val (.int c)), some (.val (.str z_abcdefghijklmnopqrstuvwxyz)), some (.val (.str r)), x3, none, none]
noncomputable def othF (u : Int) : Nat → Int → List Nat → List Nat
  | 0, _, r => r
  | n + 1, a, r => othF u n (a + 1) (r ++ [lt26 (u + 5 * a)])
theorem othF_len (u : Int) : ∀ (n : Nat) (a : Int) (r : List Nat), (othF u n a r).length = r.length + n
  | 0, _, r => rfl
  | n + 1, a, r => by
    show (othF u n (a + 1) (r ++ [lt26 (u + 5 * a)])).length = _
    rw [othF_len u n, List.length_append, List.length_singleton]; omega
theorem nb_for (c : Int) : ∀ (n : Nat) (a : Int) (r : List Nat) (x3 : Option O), r.length + n ≤ 1000 → ∃ y3, ForOK G d fi__law_name_by (.Name "_law_turn" ⟨47,8,47,17⟩) (l__law_name_by_47 d).xs (rangeL a n) (mst c r x3) .next (mst c (othF (c / 208) n a r) y3)
  | 0, a, r, x3, h => ⟨x3, for_nil⟩
  | n + 1, a, r, x3, h => by
    have hl : (r ++ [lt26 (c / 208 + 5 * a)]).length = r.length + 1 := by simp
    obtain ⟨y3, h2⟩ := nb_for c n (a + 1) (r ++ [lt26 (c / 208 + 5 * a)]) (some (.val (.int a))) (by omega)
    exact ⟨y3, for_go (i := 3) (v := .int a) (l := rangeL (a + 1) n) (ρ := mst c r x3) (ρ' := mst c (r ++ [lt26 (c / 208 + 5 * a)]) (some (.val (.int a)))) (tp := [.r (.val (.str [lt26 (c / 208 + 5 * a)]))]) (by kernel_rfl) (by kernel_rfl) (P := ((r ++ [lt26 (c / 208 + 5 * a)]).length ≤ room) ∧ Pick (.val (.str z_abcdefghijklmnopqrstuvwxyz)) ((c / 208 + 5 * a) % 26) (.val (.str [lt26 (c / 208 + 5 * a)])) ∧ ((0 : Int) < 26) ∧ ((5 : Int).natAbs < 2 ^ 62 ∨ a.natAbs < 2 ^ 62) ∧ ((0 : Int) < 208 ∧ (208 : Int) < 2 ^ 29) ∧ True) (by kernel_rfl) ⟨by rw [hl]; show _ ≤ 1000000; omega, letter _, by decide, .inl (by decide), by decide, trivial⟩ h2⟩
noncomputable def wrd (u : Int) (r : List Nat) (L : Nat) : List Nat := (cut r none (some (u % (1 + (r.length : Int))).toNat) ++ [L] ++ cut r (some (u % (1 + (r.length : Int))).toNat) none)
noncomputable def resv : List (List Nat) := [z_num, z_name, z_fun, z_call, z_plus, z_less, z_if, z_let]
noncomputable def nameOf (u v : Int) (L : Nat) : List Nat := Bool.casesOn (resv.any fun t => t == wrd u (othF u v.toNat 0 []) L) (wrd u (othF u v.toNat 0 []) L) [L]
theorem wrd_inj {u : Int} {r : List Nat} {L L' : Nat} (h : wrd u r L = wrd u r L') : L = L' := by
  unfold wrd at h
  have := List.append_cancel_right h
  have := List.append_cancel_left this
  exact List.head_eq_of_cons_eq this
theorem resv_len {L : Nat} : (resv.any fun t => t == [L]) = false := by
  unfold resv
  simp [z_num, z_name, z_fun, z_call, z_plus, z_less, z_if, z_let]
theorem nameOf_inj {u v : Int} {L L' : Nat} (h : nameOf u v L = nameOf u v L') : L = L' := by
  unfold nameOf at h
  have one : ∀ {A B : Nat}, [A] = wrd u (othF u v.toNat 0 []) B → (resv.any fun t => t == wrd u (othF u v.toNat 0 []) A) = true → False := fun {A B} e q => by
    have hl : ∀ X, (wrd u (othF u v.toNat 0 []) X).length = (wrd u (othF u v.toNat 0 []) B).length := fun X => by unfold wrd; simp
    have h1 := hl A
    rw [← e] at h1
    have : ∃ Z, wrd u (othF u v.toNat 0 []) A = [Z] := by
      match z : wrd u (othF u v.toNat 0 []) A, h1 with
      | [Z], _ => exact ⟨Z, rfl⟩
    obtain ⟨Z, hZ⟩ := this
    rw [hZ, resv_len] at q; cases q
  cases e1 : resv.any (fun t => t == wrd u (othF u v.toNat 0 []) L) with
  | true =>
    rw [e1] at h
    cases e2 : resv.any (fun t => t == wrd u (othF u v.toNat 0 []) L') with
    | true => rw [e2] at h; exact List.head_eq_of_cons_eq h
    | false => rw [e2] at h; exact (one h e1).elim
  | false =>
    rw [e1] at h
    cases e2 : resv.any (fun t => t == wrd u (othF u v.toNat 0 []) L') with
    | true => rw [e2] at h; exact (one h.symm e2).elim
    | false => rw [e2] at h; exact wrd_inj h
theorem ok_name (c : Int) : CallOK G (d + 1) 54 [.int c] (.val (.str (nameOf (c / 208) (c / 26 % 8) (lt26 c)))) := by
  have h8 := Int.emod_lt_of_pos (c / 26) (b := 8) (by decide)
  have h80 := Int.emod_nonneg (c / 26) (b := 8) (by decide)
  obtain ⟨y3, hf⟩ := nb_for (d := d) c (c / 26 % 8 - 0).toNat 0 [] none (by show 0 + _ ≤ 1000; omega)
  have h1 := othF_len (c / 208) (c / 26 % 8 - 0).toNat 0 []
  have e0 : (c / 26 % 8 - 0).toNat = (c / 26 % 8).toNat := by rw [Int.sub_zero]
  unfold nameOf wrd
  rw [← e0]
  generalize othF (c / 208) (c / 26 % 8 - 0).toNat 0 [] = r at hf h1 ⊢
  have h1 : r.length = 0 + (c / 26 % 8 - 0).toNat := h1
  have a1 := Int.emod_lt_of_pos (c / 208) (b := 1 + (r.length : Int)) (by omega)
  have a2 := Int.emod_nonneg (c / 208) (b := 1 + (r.length : Int)) (by omega)
  have hat : 0 ≤ (c / 208 % (1 + (r.length : Int))) ∧ (c / 208 % (1 + (r.length : Int))) ≤ 1000000 := ⟨a2, by omega⟩
  have c1 := cut_len r none (some (c / 208 % (1 + (r.length : Int))).toNat)
  have c2 := cut_len r (some (c / 208 % (1 + (r.length : Int))).toNat) none
  cases hb : resv.any (fun t => t == (cut r none (some (c / 208 % (1 + (r.length : Int))).toNat) ++ [lt26 c] ++ cut r (some (c / 208 % (1 + (r.length : Int))).toNat) none)) with
  | false => exact call_go (n := 5) (tp := [.l .next (mst c r y3), .r (.val (.str [lt26 c])), .b false]) (o := .val (.str (cut r none (some (c / 208 % (1 + (r.length : Int))).toNat) ++ [lt26 c] ++ cut r (some (c / 208 % (1 + (r.length : Int))).toNat) none))) (b__law_name_by d) rfl (b__law_name_by_x d) rfl (by kernel_rfl) (P := resv.any (fun t => t == (cut r none (some (c / 208 % (1 + (r.length : Int))).toNat) ++ [lt26 c] ++ cut r (some (c / 208 % (1 + (r.length : Int))).toNat) none)) = false ∧ ((cut r none (some (c / 208 % (1 + (r.length : Int))).toNat) ++ [lt26 c] ++ cut r (some (c / 208 % (1 + (r.length : Int))).toNat) none).length ≤ room) ∧ (0 ≤ (c / 208 % (1 + (r.length : Int))) ∧ (c / 208 % (1 + (r.length : Int))) ≤ 1000000) ∧ ((cut r none (some (c / 208 % (1 + (r.length : Int))).toNat) ++ [lt26 c]).length ≤ room) ∧ Pick (.val (.str z_abcdefghijklmnopqrstuvwxyz)) (c % 26) (.val (.str [lt26 c])) ∧ ((0 : Int) < 26) ∧ (0 ≤ (c / 208 % (1 + (r.length : Int))) ∧ (c / 208 % (1 + (r.length : Int))) ≤ 1000000) ∧ (0 < 1 + (r.length : Int)) ∧ ((0 : Int) < 208 ∧ (208 : Int) < 2 ^ 29) ∧ ForOK G d fi__law_name_by (.Name "_law_turn" ⟨47,8,47,17⟩) (l__law_name_by_47 d).xs (rangeL 0 (c / 26 % 8 - 0).toNat) (mst c [] none) .next (mst c r y3) ∧ ((c / 26 % 8).natAbs ≤ 1000000) ∧ ((0 : Int) < 8) ∧ ((0 : Int) < 26 ∧ (26 : Int) < 2 ^ 29) ∧ True) (by kernel_rfl) ⟨hb, by simp only [List.length_append, List.length_singleton]; show _ ≤ 1000000; omega, hat, by simp only [List.length_append, List.length_singleton]; show _ ≤ 1000000; omega, letter c, by decide, hat, by omega, by decide, hf, by omega, by decide, by decide, trivial⟩
  | true => exact call_go (n := 5) (tp := [.l .next (mst c r y3), .r (.val (.str [lt26 c])), .b true, .r (.val (.str [lt26 c]))]) (o := .val (.str [lt26 c])) (b__law_name_by d) rfl (b__law_name_by_x d) rfl (by kernel_rfl) (P := Pick (.val (.str z_abcdefghijklmnopqrstuvwxyz)) (c % 26) (.val (.str [lt26 c])) ∧ ((0 : Int) < 26) ∧ resv.any (fun t => t == (cut r none (some (c / 208 % (1 + (r.length : Int))).toNat) ++ [lt26 c] ++ cut r (some (c / 208 % (1 + (r.length : Int))).toNat) none)) = true ∧ ((cut r none (some (c / 208 % (1 + (r.length : Int))).toNat) ++ [lt26 c] ++ cut r (some (c / 208 % (1 + (r.length : Int))).toNat) none).length ≤ room) ∧ (0 ≤ (c / 208 % (1 + (r.length : Int))) ∧ (c / 208 % (1 + (r.length : Int))) ≤ 1000000) ∧ ((cut r none (some (c / 208 % (1 + (r.length : Int))).toNat) ++ [lt26 c]).length ≤ room) ∧ Pick (.val (.str z_abcdefghijklmnopqrstuvwxyz)) (c % 26) (.val (.str [lt26 c])) ∧ ((0 : Int) < 26) ∧ (0 ≤ (c / 208 % (1 + (r.length : Int))) ∧ (c / 208 % (1 + (r.length : Int))) ≤ 1000000) ∧ (0 < 1 + (r.length : Int)) ∧ ((0 : Int) < 208 ∧ (208 : Int) < 2 ^ 29) ∧ ForOK G d fi__law_name_by (.Name "_law_turn" ⟨47,8,47,17⟩) (l__law_name_by_47 d).xs (rangeL 0 (c / 26 % 8 - 0).toNat) (mst c [] none) .next (mst c r y3) ∧ ((c / 26 % 8).natAbs ≤ 1000000) ∧ ((0 : Int) < 8) ∧ ((0 : Int) < 26 ∧ (26 : Int) < 2 ^ 29) ∧ True) (by kernel_rfl) ⟨letter c, by decide, hb, by simp only [List.length_append, List.length_singleton]; show _ ≤ 1000000; omega, hat, by simp only [List.length_append, List.length_singleton]; show _ ≤ 1000000; omega, letter c, by decide, hat, by omega, by decide, hf, by omega, by decide, by decide, trivial⟩
theorem kin_word4 (c : Int) {n0 n1 n2 n3 n4 n5 n6 n7 : Nat} (h0 : Pick (.val (.str z_abcdefghijklmnopqrstuvwxyz)) ((c + 3 * 0) % 26) (.val (.str [n0]))) (h1 : Pick (.val (.str z_abcdefghijklmnopqrstuvwxyz)) ((c + 3 * 1) % 26) (.val (.str [n1]))) (h2 : Pick (.val (.str z_abcdefghijklmnopqrstuvwxyz)) ((c + 3 * 2) % 26) (.val (.str [n2]))) (h3 : Pick (.val (.str z_abcdefghijklmnopqrstuvwxyz)) ((c + 3 * 3) % 26) (.val (.str [n3]))) (h4 : Pick (.val (.str z_abcdefghijklmnopqrstuvwxyz)) ((c + 3 * 4) % 26) (.val (.str [n4]))) (h5 : Pick (.val (.str z_abcdefghijklmnopqrstuvwxyz)) ((c + 3 * 5) % 26) (.val (.str [n5]))) (h6 : Pick (.val (.str z_abcdefghijklmnopqrstuvwxyz)) ((c + 3 * 6) % 26) (.val (.str [n6]))) (h7 : Pick (.val (.str z_abcdefghijklmnopqrstuvwxyz)) ((c + 3 * 7) % 26) (.val (.str [n7]))) : CompL G d (fi__law_kin_by.inner s__law_kin_by_39_24 "_law_k" 5) (e__law_kin_by_39_24 d).x 5 [some (.val (.int c)), some (.val (.int 4)), some (.val (.str z_abcdefghijklmnopqrstuvwxyz)), none, none, none] [.int 0, .int 1, .int 2, .int 3, .int 4, .int 5, .int 6, .int 7] [.str [n0], .str [n1], .str [n2], .str [n3], .str [n4], .str [n5], .str [n6], .str [n7]] :=
  (comp_go (o := .val (.str [n0])) (tp := [.r (.val (.str [n0]))]) (by kernel_rfl) (P := Pick (.val (.str z_abcdefghijklmnopqrstuvwxyz)) ((c + 3 * 0) % 26) (.val (.str [n0])) ∧ ((0 : Int) < 26) ∧ ((3 : Int).natAbs < 2 ^ 62 ∨ (0 : Int).natAbs < 2 ^ 62) ∧ True) (by kernel_rfl) ⟨h0, by decide, .inl (by decide), trivial⟩ (comp_go (o := .val (.str [n1])) (tp := [.r (.val (.str [n1]))]) (by kernel_rfl) (P := Pick (.val (.str z_abcdefghijklmnopqrstuvwxyz)) ((c + 3 * 1) % 26) (.val (.str [n1])) ∧ ((0 : Int) < 26) ∧ ((3 : Int).natAbs < 2 ^ 62 ∨ (1 : Int).natAbs < 2 ^ 62) ∧ True) (by kernel_rfl) ⟨h1, by decide, .inl (by decide), trivial⟩ (comp_go (o := .val (.str [n2])) (tp := [.r (.val (.str [n2]))]) (by kernel_rfl) (P := Pick (.val (.str z_abcdefghijklmnopqrstuvwxyz)) ((c + 3 * 2) % 26) (.val (.str [n2])) ∧ ((0 : Int) < 26) ∧ ((3 : Int).natAbs < 2 ^ 62 ∨ (2 : Int).natAbs < 2 ^ 62) ∧ True) (by kernel_rfl) ⟨h2, by decide, .inl (by decide), trivial⟩ (comp_go (o := .val (.str [n3])) (tp := [.r (.val (.str [n3]))]) (by kernel_rfl) (P := Pick (.val (.str z_abcdefghijklmnopqrstuvwxyz)) ((c + 3 * 3) % 26) (.val (.str [n3])) ∧ ((0 : Int) < 26) ∧ ((3 : Int).natAbs < 2 ^ 62 ∨ (3 : Int).natAbs < 2 ^ 62) ∧ True) (by kernel_rfl) ⟨h3, by decide, .inl (by decide), trivial⟩ (comp_go (o := .val (.str [n4])) (tp := [.r (.val (.str [n4]))]) (by kernel_rfl) (P := Pick (.val (.str z_abcdefghijklmnopqrstuvwxyz)) ((c + 3 * 4) % 26) (.val (.str [n4])) ∧ ((0 : Int) < 26) ∧ ((3 : Int).natAbs < 2 ^ 62 ∨ (4 : Int).natAbs < 2 ^ 62) ∧ True) (by kernel_rfl) ⟨h4, by decide, .inl (by decide), trivial⟩ (comp_go (o := .val (.str [n5])) (tp := [.r (.val (.str [n5]))]) (by kernel_rfl) (P := Pick (.val (.str z_abcdefghijklmnopqrstuvwxyz)) ((c + 3 * 5) % 26) (.val (.str [n5])) ∧ ((0 : Int) < 26) ∧ ((3 : Int).natAbs < 2 ^ 62 ∨ (5 : Int).natAbs < 2 ^ 62) ∧ True) (by kernel_rfl) ⟨h5, by decide, .inl (by decide), trivial⟩ (comp_go (o := .val (.str [n6])) (tp := [.r (.val (.str [n6]))]) (by kernel_rfl) (P := Pick (.val (.str z_abcdefghijklmnopqrstuvwxyz)) ((c + 3 * 6) % 26) (.val (.str [n6])) ∧ ((0 : Int) < 26) ∧ ((3 : Int).natAbs < 2 ^ 62 ∨ (6 : Int).natAbs < 2 ^ 62) ∧ True) (by kernel_rfl) ⟨h6, by decide, .inl (by decide), trivial⟩ (comp_go (o := .val (.str [n7])) (tp := [.r (.val (.str [n7]))]) (by kernel_rfl) (P := Pick (.val (.str z_abcdefghijklmnopqrstuvwxyz)) ((c + 3 * 7) % 26) (.val (.str [n7])) ∧ ((0 : Int) < 26) ∧ ((3 : Int).natAbs < 2 ^ 62 ∨ (7 : Int).natAbs < 2 ^ 62) ∧ True) (by kernel_rfl) ⟨h7, by decide, .inl (by decide), trivial⟩ comp_nil))))))))
theorem kin_turned4 (c : Int) {n0 n1 n2 n3 n4 n5 n6 n7 : Nat} : CompL G d (fi__law_kin_by.inner s__law_kin_by_42_18 "_law_k" 5) (e__law_kin_by_42_18 d).x 5 [some (.val (.int c)), some (.val (.int 4)), some (.val (.str z_abcdefghijklmnopqrstuvwxyz)), some (.val (.str [n0, n1, n2, n3, n4, n5, n6, n7])), none, none] [.int 0, .int 1, .int 2, .int 3, .int 4, .int 5, .int 6, .int 7] [.str [n0, n1, n2, n3, n4, n5, n6, n7], .str [n1, n2, n3, n4, n5, n6, n7, n0], .str [n2, n3, n4, n5, n6, n7, n0, n1], .str [n3, n4, n5, n6, n7, n0, n1, n2], .str [n4, n5, n6, n7, n0, n1, n2, n3], .str [n5, n6, n7, n0, n1, n2, n3, n4], .str [n6, n7, n0, n1, n2, n3, n4, n5], .str [n7, n0, n1, n2, n3, n4, n5, n6]] :=
  (comp_go (o := .val (.str [n0, n1, n2, n3, n4, n5, n6, n7])) (tp := []) (by kernel_rfl) (P := (8 ≤ 1000000) ∧ (0 ≤ (0 : Int) ∧ (0 : Int) ≤ 1000000) ∧ (0 ≤ (0 : Int) ∧ (0 : Int) ≤ 1000000) ∧ True) (by kernel_rfl) (by decide) (comp_go (o := .val (.str [n1, n2, n3, n4, n5, n6, n7, n0])) (tp := []) (by kernel_rfl) (P := (8 ≤ 1000000) ∧ (0 ≤ (1 : Int) ∧ (1 : Int) ≤ 1000000) ∧ (0 ≤ (1 : Int) ∧ (1 : Int) ≤ 1000000) ∧ True) (by kernel_rfl) (by decide) (comp_go (o := .val (.str [n2, n3, n4, n5, n6, n7, n0, n1])) (tp := []) (by kernel_rfl) (P := (8 ≤ 1000000) ∧ (0 ≤ (2 : Int) ∧ (2 : Int) ≤ 1000000) ∧ (0 ≤ (2 : Int) ∧ (2 : Int) ≤ 1000000) ∧ True) (by kernel_rfl) (by decide) (comp_go (o := .val (.str [n3, n4, n5, n6, n7, n0, n1, n2])) (tp := []) (by kernel_rfl) (P := (8 ≤ 1000000) ∧ (0 ≤ (3 : Int) ∧ (3 : Int) ≤ 1000000) ∧ (0 ≤ (3 : Int) ∧ (3 : Int) ≤ 1000000) ∧ True) (by kernel_rfl) (by decide) (comp_go (o := .val (.str [n4, n5, n6, n7, n0, n1, n2, n3])) (tp := []) (by kernel_rfl) (P := (8 ≤ 1000000) ∧ (0 ≤ (4 : Int) ∧ (4 : Int) ≤ 1000000) ∧ (0 ≤ (4 : Int) ∧ (4 : Int) ≤ 1000000) ∧ True) (by kernel_rfl) (by decide) (comp_go (o := .val (.str [n5, n6, n7, n0, n1, n2, n3, n4])) (tp := []) (by kernel_rfl) (P := (8 ≤ 1000000) ∧ (0 ≤ (5 : Int) ∧ (5 : Int) ≤ 1000000) ∧ (0 ≤ (5 : Int) ∧ (5 : Int) ≤ 1000000) ∧ True) (by kernel_rfl) (by decide) (comp_go (o := .val (.str [n6, n7, n0, n1, n2, n3, n4, n5])) (tp := []) (by kernel_rfl) (P := (8 ≤ 1000000) ∧ (0 ≤ (6 : Int) ∧ (6 : Int) ≤ 1000000) ∧ (0 ≤ (6 : Int) ∧ (6 : Int) ≤ 1000000) ∧ True) (by kernel_rfl) (by decide) (comp_go (o := .val (.str [n7, n0, n1, n2, n3, n4, n5, n6])) (tp := []) (by kernel_rfl) (P := (8 ≤ 1000000) ∧ (0 ≤ (7 : Int) ∧ (7 : Int) ≤ 1000000) ∧ (0 ≤ (7 : Int) ∧ (7 : Int) ≤ 1000000) ∧ True) (by kernel_rfl) (by decide) comp_nil))))))))
theorem kin_back4 (c : Int) {n0 n1 n2 n3 n4 n5 n6 n7 : Nat} : CompL G d (fi__law_kin_by.inner s__law_kin_by_43_26 "_law_one" 5) (e__law_kin_by_43_26 d).x 5 [some (.val (.int c)), some (.val (.int 4)), some (.val (.str z_abcdefghijklmnopqrstuvwxyz)), some (.val (.str [n0, n1, n2, n3, n4, n5, n6, n7])), some (.val (.lst [.str [n0, n1, n2, n3, n4, n5, n6, n7], .str [n1, n2, n3, n4, n5, n6, n7, n0], .str [n2, n3, n4, n5, n6, n7, n0, n1], .str [n3, n4, n5, n6, n7, n0, n1, n2], .str [n4, n5, n6, n7, n0, n1, n2, n3], .str [n5, n6, n7, n0, n1, n2, n3, n4], .str [n6, n7, n0, n1, n2, n3, n4, n5], .str [n7, n0, n1, n2, n3, n4, n5, n6]])), none] [.str [n0, n1, n2, n3, n4, n5, n6, n7], .str [n1, n2, n3, n4, n5, n6, n7, n0], .str [n2, n3, n4, n5, n6, n7, n0, n1], .str [n3, n4, n5, n6, n7, n0, n1, n2], .str [n4, n5, n6, n7, n0, n1, n2, n3], .str [n5, n6, n7, n0, n1, n2, n3, n4], .str [n6, n7, n0, n1, n2, n3, n4, n5], .str [n7, n0, n1, n2, n3, n4, n5, n6]] [.str [n7, n6, n5, n4, n3, n2, n1, n0], .str [n0, n7, n6, n5, n4, n3, n2, n1], .str [n1, n0, n7, n6, n5, n4, n3, n2], .str [n2, n1, n0, n7, n6, n5, n4, n3], .str [n3, n2, n1, n0, n7, n6, n5, n4], .str [n4, n3, n2, n1, n0, n7, n6, n5], .str [n5, n4, n3, n2, n1, n0, n7, n6], .str [n6, n5, n4, n3, n2, n1, n0, n7]] :=
  (comp_go (o := .val (.str [n7, n6, n5, n4, n3, n2, n1, n0])) (tp := []) (by kernel_rfl) (P := True) (by kernel_rfl) trivial (comp_go (o := .val (.str [n0, n7, n6, n5, n4, n3, n2, n1])) (tp := []) (by kernel_rfl) (P := True) (by kernel_rfl) trivial (comp_go (o := .val (.str [n1, n0, n7, n6, n5, n4, n3, n2])) (tp := []) (by kernel_rfl) (P := True) (by kernel_rfl) trivial (comp_go (o := .val (.str [n2, n1, n0, n7, n6, n5, n4, n3])) (tp := []) (by kernel_rfl) (P := True) (by kernel_rfl) trivial (comp_go (o := .val (.str [n3, n2, n1, n0, n7, n6, n5, n4])) (tp := []) (by kernel_rfl) (P := True) (by kernel_rfl) trivial (comp_go (o := .val (.str [n4, n3, n2, n1, n0, n7, n6, n5])) (tp := []) (by kernel_rfl) (P := True) (by kernel_rfl) trivial (comp_go (o := .val (.str [n5, n4, n3, n2, n1, n0, n7, n6])) (tp := []) (by kernel_rfl) (P := True) (by kernel_rfl) trivial (comp_go (o := .val (.str [n6, n5, n4, n3, n2, n1, n0, n7])) (tp := []) (by kernel_rfl) (P := True) (by kernel_rfl) trivial comp_nil))))))))
theorem kin_short (c : Int) {n0 n1 n2 n3 n4 n5 n6 n7 : Nat} : CompL G d (fi__law_kin_by.inner s__law_kin_by_41_15 "_law_k" 5) (e__law_kin_by_41_15 d).x 5 [some (.val (.int c)), some (.val (.int 4)), some (.val (.str z_abcdefghijklmnopqrstuvwxyz)), some (.val (.str [n0, n1, n2, n3, n4, n5, n6, n7])), none, none] [.int 0, .int 1, .int 2, .int 3] [.str [n0], .str [n0, n1], .str [n0, n1, n2], .str [n0, n1, n2, n3]] :=
  (comp_go (o := .val (.str [n0])) (tp := []) (by kernel_rfl) (P := (0 ≤ ((0 : Int) + 1) ∧ ((0 : Int) + 1) ≤ 1000000) ∧ True) (by kernel_rfl) (by decide) (comp_go (o := .val (.str [n0, n1])) (tp := []) (by kernel_rfl) (P := (0 ≤ ((1 : Int) + 1) ∧ ((1 : Int) + 1) ≤ 1000000) ∧ True) (by kernel_rfl) (by decide) (comp_go (o := .val (.str [n0, n1, n2])) (tp := []) (by kernel_rfl) (P := (0 ≤ ((2 : Int) + 1) ∧ ((2 : Int) + 1) ≤ 1000000) ∧ True) (by kernel_rfl) (by decide) (comp_go (o := .val (.str [n0, n1, n2, n3])) (tp := []) (by kernel_rfl) (P := (0 ≤ ((3 : Int) + 1) ∧ ((3 : Int) + 1) ≤ 1000000) ∧ True) (by kernel_rfl) (by decide) comp_nil))))
theorem kin_word12 (c : Int) {n0 n1 n2 n3 n4 n5 n6 n7 : Nat} (h0 : Pick (.val (.str z_abcdefghijklmnopqrstuvwxyz)) ((c + 3 * 0) % 26) (.val (.str [n0]))) (h1 : Pick (.val (.str z_abcdefghijklmnopqrstuvwxyz)) ((c + 3 * 1) % 26) (.val (.str [n1]))) (h2 : Pick (.val (.str z_abcdefghijklmnopqrstuvwxyz)) ((c + 3 * 2) % 26) (.val (.str [n2]))) (h3 : Pick (.val (.str z_abcdefghijklmnopqrstuvwxyz)) ((c + 3 * 3) % 26) (.val (.str [n3]))) (h4 : Pick (.val (.str z_abcdefghijklmnopqrstuvwxyz)) ((c + 3 * 4) % 26) (.val (.str [n4]))) (h5 : Pick (.val (.str z_abcdefghijklmnopqrstuvwxyz)) ((c + 3 * 5) % 26) (.val (.str [n5]))) (h6 : Pick (.val (.str z_abcdefghijklmnopqrstuvwxyz)) ((c + 3 * 6) % 26) (.val (.str [n6]))) (h7 : Pick (.val (.str z_abcdefghijklmnopqrstuvwxyz)) ((c + 3 * 7) % 26) (.val (.str [n7]))) : CompL G d (fi__law_kin_by.inner s__law_kin_by_39_24 "_law_k" 5) (e__law_kin_by_39_24 d).x 5 [some (.val (.int c)), some (.val (.int 12)), some (.val (.str z_abcdefghijklmnopqrstuvwxyz)), none, none, none] [.int 0, .int 1, .int 2, .int 3, .int 4, .int 5, .int 6, .int 7] [.str [n0], .str [n1], .str [n2], .str [n3], .str [n4], .str [n5], .str [n6], .str [n7]] :=
  (comp_go (o := .val (.str [n0])) (tp := [.r (.val (.str [n0]))]) (by kernel_rfl) (P := Pick (.val (.str z_abcdefghijklmnopqrstuvwxyz)) ((c + 3 * 0) % 26) (.val (.str [n0])) ∧ ((0 : Int) < 26) ∧ ((3 : Int).natAbs < 2 ^ 62 ∨ (0 : Int).natAbs < 2 ^ 62) ∧ True) (by kernel_rfl) ⟨h0, by decide, .inl (by decide), trivial⟩ (comp_go (o := .val (.str [n1])) (tp := [.r (.val (.str [n1]))]) (by kernel_rfl) (P := Pick (.val (.str z_abcdefghijklmnopqrstuvwxyz)) ((c + 3 * 1) % 26) (.val (.str [n1])) ∧ ((0 : Int) < 26) ∧ ((3 : Int).natAbs < 2 ^ 62 ∨ (1 : Int).natAbs < 2 ^ 62) ∧ True) (by kernel_rfl) ⟨h1, by decide, .inl (by decide), trivial⟩ (comp_go (o := .val (.str [n2])) (tp := [.r (.val (.str [n2]))]) (by kernel_rfl) (P := Pick (.val (.str z_abcdefghijklmnopqrstuvwxyz)) ((c + 3 * 2) % 26) (.val (.str [n2])) ∧ ((0 : Int) < 26) ∧ ((3 : Int).natAbs < 2 ^ 62 ∨ (2 : Int).natAbs < 2 ^ 62) ∧ True) (by kernel_rfl) ⟨h2, by decide, .inl (by decide), trivial⟩ (comp_go (o := .val (.str [n3])) (tp := [.r (.val (.str [n3]))]) (by kernel_rfl) (P := Pick (.val (.str z_abcdefghijklmnopqrstuvwxyz)) ((c + 3 * 3) % 26) (.val (.str [n3])) ∧ ((0 : Int) < 26) ∧ ((3 : Int).natAbs < 2 ^ 62 ∨ (3 : Int).natAbs < 2 ^ 62) ∧ True) (by kernel_rfl) ⟨h3, by decide, .inl (by decide), trivial⟩ (comp_go (o := .val (.str [n4])) (tp := [.r (.val (.str [n4]))]) (by kernel_rfl) (P := Pick (.val (.str z_abcdefghijklmnopqrstuvwxyz)) ((c + 3 * 4) % 26) (.val (.str [n4])) ∧ ((0 : Int) < 26) ∧ ((3 : Int).natAbs < 2 ^ 62 ∨ (4 : Int).natAbs < 2 ^ 62) ∧ True) (by kernel_rfl) ⟨h4, by decide, .inl (by decide), trivial⟩ (comp_go (o := .val (.str [n5])) (tp := [.r (.val (.str [n5]))]) (by kernel_rfl) (P := Pick (.val (.str z_abcdefghijklmnopqrstuvwxyz)) ((c + 3 * 5) % 26) (.val (.str [n5])) ∧ ((0 : Int) < 26) ∧ ((3 : Int).natAbs < 2 ^ 62 ∨ (5 : Int).natAbs < 2 ^ 62) ∧ True) (by kernel_rfl) ⟨h5, by decide, .inl (by decide), trivial⟩ (comp_go (o := .val (.str [n6])) (tp := [.r (.val (.str [n6]))]) (by kernel_rfl) (P := Pick (.val (.str z_abcdefghijklmnopqrstuvwxyz)) ((c + 3 * 6) % 26) (.val (.str [n6])) ∧ ((0 : Int) < 26) ∧ ((3 : Int).natAbs < 2 ^ 62 ∨ (6 : Int).natAbs < 2 ^ 62) ∧ True) (by kernel_rfl) ⟨h6, by decide, .inl (by decide), trivial⟩ (comp_go (o := .val (.str [n7])) (tp := [.r (.val (.str [n7]))]) (by kernel_rfl) (P := Pick (.val (.str z_abcdefghijklmnopqrstuvwxyz)) ((c + 3 * 7) % 26) (.val (.str [n7])) ∧ ((0 : Int) < 26) ∧ ((3 : Int).natAbs < 2 ^ 62 ∨ (7 : Int).natAbs < 2 ^ 62) ∧ True) (by kernel_rfl) ⟨h7, by decide, .inl (by decide), trivial⟩ comp_nil))))))))
theorem kin_turned12 (c : Int) {n0 n1 n2 n3 n4 n5 n6 n7 : Nat} : CompL G d (fi__law_kin_by.inner s__law_kin_by_42_18 "_law_k" 5) (e__law_kin_by_42_18 d).x 5 [some (.val (.int c)), some (.val (.int 12)), some (.val (.str z_abcdefghijklmnopqrstuvwxyz)), some (.val (.str [n0, n1, n2, n3, n4, n5, n6, n7])), none, none] [.int 0, .int 1, .int 2, .int 3, .int 4, .int 5, .int 6, .int 7] [.str [n0, n1, n2, n3, n4, n5, n6, n7], .str [n1, n2, n3, n4, n5, n6, n7, n0], .str [n2, n3, n4, n5, n6, n7, n0, n1], .str [n3, n4, n5, n6, n7, n0, n1, n2], .str [n4, n5, n6, n7, n0, n1, n2, n3], .str [n5, n6, n7, n0, n1, n2, n3, n4], .str [n6, n7, n0, n1, n2, n3, n4, n5], .str [n7, n0, n1, n2, n3, n4, n5, n6]] :=
  (comp_go (o := .val (.str [n0, n1, n2, n3, n4, n5, n6, n7])) (tp := []) (by kernel_rfl) (P := (8 ≤ 1000000) ∧ (0 ≤ (0 : Int) ∧ (0 : Int) ≤ 1000000) ∧ (0 ≤ (0 : Int) ∧ (0 : Int) ≤ 1000000) ∧ True) (by kernel_rfl) (by decide) (comp_go (o := .val (.str [n1, n2, n3, n4, n5, n6, n7, n0])) (tp := []) (by kernel_rfl) (P := (8 ≤ 1000000) ∧ (0 ≤ (1 : Int) ∧ (1 : Int) ≤ 1000000) ∧ (0 ≤ (1 : Int) ∧ (1 : Int) ≤ 1000000) ∧ True) (by kernel_rfl) (by decide) (comp_go (o := .val (.str [n2, n3, n4, n5, n6, n7, n0, n1])) (tp := []) (by kernel_rfl) (P := (8 ≤ 1000000) ∧ (0 ≤ (2 : Int) ∧ (2 : Int) ≤ 1000000) ∧ (0 ≤ (2 : Int) ∧ (2 : Int) ≤ 1000000) ∧ True) (by kernel_rfl) (by decide) (comp_go (o := .val (.str [n3, n4, n5, n6, n7, n0, n1, n2])) (tp := []) (by kernel_rfl) (P := (8 ≤ 1000000) ∧ (0 ≤ (3 : Int) ∧ (3 : Int) ≤ 1000000) ∧ (0 ≤ (3 : Int) ∧ (3 : Int) ≤ 1000000) ∧ True) (by kernel_rfl) (by decide) (comp_go (o := .val (.str [n4, n5, n6, n7, n0, n1, n2, n3])) (tp := []) (by kernel_rfl) (P := (8 ≤ 1000000) ∧ (0 ≤ (4 : Int) ∧ (4 : Int) ≤ 1000000) ∧ (0 ≤ (4 : Int) ∧ (4 : Int) ≤ 1000000) ∧ True) (by kernel_rfl) (by decide) (comp_go (o := .val (.str [n5, n6, n7, n0, n1, n2, n3, n4])) (tp := []) (by kernel_rfl) (P := (8 ≤ 1000000) ∧ (0 ≤ (5 : Int) ∧ (5 : Int) ≤ 1000000) ∧ (0 ≤ (5 : Int) ∧ (5 : Int) ≤ 1000000) ∧ True) (by kernel_rfl) (by decide) (comp_go (o := .val (.str [n6, n7, n0, n1, n2, n3, n4, n5])) (tp := []) (by kernel_rfl) (P := (8 ≤ 1000000) ∧ (0 ≤ (6 : Int) ∧ (6 : Int) ≤ 1000000) ∧ (0 ≤ (6 : Int) ∧ (6 : Int) ≤ 1000000) ∧ True) (by kernel_rfl) (by decide) (comp_go (o := .val (.str [n7, n0, n1, n2, n3, n4, n5, n6])) (tp := []) (by kernel_rfl) (P := (8 ≤ 1000000) ∧ (0 ≤ (7 : Int) ∧ (7 : Int) ≤ 1000000) ∧ (0 ≤ (7 : Int) ∧ (7 : Int) ≤ 1000000) ∧ True) (by kernel_rfl) (by decide) comp_nil))))))))
theorem kin_back12 (c : Int) {n0 n1 n2 n3 n4 n5 n6 n7 : Nat} : CompL G d (fi__law_kin_by.inner s__law_kin_by_43_26 "_law_one" 5) (e__law_kin_by_43_26 d).x 5 [some (.val (.int c)), some (.val (.int 12)), some (.val (.str z_abcdefghijklmnopqrstuvwxyz)), some (.val (.str [n0, n1, n2, n3, n4, n5, n6, n7])), some (.val (.lst [.str [n0, n1, n2, n3, n4, n5, n6, n7], .str [n1, n2, n3, n4, n5, n6, n7, n0], .str [n2, n3, n4, n5, n6, n7, n0, n1], .str [n3, n4, n5, n6, n7, n0, n1, n2], .str [n4, n5, n6, n7, n0, n1, n2, n3], .str [n5, n6, n7, n0, n1, n2, n3, n4], .str [n6, n7, n0, n1, n2, n3, n4, n5], .str [n7, n0, n1, n2, n3, n4, n5, n6]])), none] [.str [n0, n1, n2, n3, n4, n5, n6, n7], .str [n1, n2, n3, n4, n5, n6, n7, n0], .str [n2, n3, n4, n5, n6, n7, n0, n1], .str [n3, n4, n5, n6, n7, n0, n1, n2], .str [n4, n5, n6, n7, n0, n1, n2, n3], .str [n5, n6, n7, n0, n1, n2, n3, n4], .str [n6, n7, n0, n1, n2, n3, n4, n5], .str [n7, n0, n1, n2, n3, n4, n5, n6]] [.str [n7, n6, n5, n4, n3, n2, n1, n0], .str [n0, n7, n6, n5, n4, n3, n2, n1], .str [n1, n0, n7, n6, n5, n4, n3, n2], .str [n2, n1, n0, n7, n6, n5, n4, n3], .str [n3, n2, n1, n0, n7, n6, n5, n4], .str [n4, n3, n2, n1, n0, n7, n6, n5], .str [n5, n4, n3, n2, n1, n0, n7, n6], .str [n6, n5, n4, n3, n2, n1, n0, n7]] :=
  (comp_go (o := .val (.str [n7, n6, n5, n4, n3, n2, n1, n0])) (tp := []) (by kernel_rfl) (P := True) (by kernel_rfl) trivial (comp_go (o := .val (.str [n0, n7, n6, n5, n4, n3, n2, n1])) (tp := []) (by kernel_rfl) (P := True) (by kernel_rfl) trivial (comp_go (o := .val (.str [n1, n0, n7, n6, n5, n4, n3, n2])) (tp := []) (by kernel_rfl) (P := True) (by kernel_rfl) trivial (comp_go (o := .val (.str [n2, n1, n0, n7, n6, n5, n4, n3])) (tp := []) (by kernel_rfl) (P := True) (by kernel_rfl) trivial (comp_go (o := .val (.str [n3, n2, n1, n0, n7, n6, n5, n4])) (tp := []) (by kernel_rfl) (P := True) (by kernel_rfl) trivial (comp_go (o := .val (.str [n4, n3, n2, n1, n0, n7, n6, n5])) (tp := []) (by kernel_rfl) (P := True) (by kernel_rfl) trivial (comp_go (o := .val (.str [n5, n4, n3, n2, n1, n0, n7, n6])) (tp := []) (by kernel_rfl) (P := True) (by kernel_rfl) trivial (comp_go (o := .val (.str [n6, n5, n4, n3, n2, n1, n0, n7])) (tp := []) (by kernel_rfl) (P := True) (by kernel_rfl) trivial comp_nil))))))))
theorem map_nodup {g : Nat → Nat} (hg : ∀ a, a < 8 → ∀ b, b < 8 → g a = g b → a = b) : ∀ (W : List (List Nat)), (W.all fun w => w.all fun i => decide (i < 8)) = true → W.Nodup → (W.map fun w => w.map g).Nodup := by
  have inj : ∀ (v w : List Nat), (v.all fun i => decide (i < 8)) = true → (w.all fun i => decide (i < 8)) = true → v.map g = w.map g → v = w := by
    intro v
    induction v with
    | nil => intro w _ _ e; cases w with
      | nil => rfl
      | cons => cases e
    | cons a v ih =>
      intro w hv hw e
      cases w with
      | nil => cases e
      | cons b w =>
        rw [List.all_cons, Bool.and_eq_true, decide_eq_true_eq] at hv hw
        rw [List.map_cons, List.map_cons] at e
        have e1 := List.head_eq_of_cons_eq e
        have e2 := List.tail_eq_of_cons_eq e
        rw [hg a hv.1 b hw.1 e1, ih w hv.2 hw.2 e2]
  intro W
  induction W with
  | nil => intro _ _; exact List.nodup_nil
  | cons v W ih =>
    intro hW nd
    rw [List.all_cons, Bool.and_eq_true] at hW
    rw [List.nodup_cons] at nd
    rw [List.map_cons, List.nodup_cons]
    refine ⟨fun q => ?_, ih hW.2 nd.2⟩
    obtain ⟨w, hw, e⟩ := List.mem_map.mp q
    have := inj w v (List.all_eq_true.mp hW.2 w hw) hW.1 e
    rw [this] at hw; exact nd.1 hw
theorem ok_kin4 (c : Int) : ∃ nl : List (List Nat), nl.Nodup ∧ nl.length = 4 ∧ CallOK G (d + 1) 47 [.int c, .int 4] (.own (nl.map .str).reverse) := by
  have hw := kin_word4 (d := d) c (letter (c + 3 * 0)) (letter (c + 3 * 1)) (letter (c + 3 * 2)) (letter (c + 3 * 3)) (letter (c + 3 * 4)) (letter (c + 3 * 5)) (letter (c + 3 * 6)) (letter (c + 3 * 7))
  have hg : ∀ a : Nat, a < 8 → ∀ b : Nat, b < 8 → lt26 (c + 3 * (a : Int)) = lt26 (c + 3 * (b : Int)) → a = b := fun a ha b hb' e => by have := lt26_inj e; omega
  cases hb : c / 26 % 2 == 0 with
  | true => exact ⟨[[0], [0, 1], [0, 1, 2], [0, 1, 2, 3]].map (fun w => w.map (fun i => lt26 (c + 3 * (i : Int)))), map_nodup hg [[0], [0, 1], [0, 1, 2], [0, 1, 2, 3]] (by decide) (by decide), rfl, call_go (n := 4) (tp := [.vs [.str [(lt26 (c + 3 * 0))], .str [(lt26 (c + 3 * 1))], .str [(lt26 (c + 3 * 2))], .str [(lt26 (c + 3 * 3))], .str [(lt26 (c + 3 * 4))], .str [(lt26 (c + 3 * 5))], .str [(lt26 (c + 3 * 6))], .str [(lt26 (c + 3 * 7))]], .b true, .vs [.str [(lt26 (c + 3 * 0))], .str [(lt26 (c + 3 * 0)), (lt26 (c + 3 * 1))], .str [(lt26 (c + 3 * 0)), (lt26 (c + 3 * 1)), (lt26 (c + 3 * 2))], .str [(lt26 (c + 3 * 0)), (lt26 (c + 3 * 1)), (lt26 (c + 3 * 2)), (lt26 (c + 3 * 3))]]]) (b__law_kin_by d) rfl (b__law_kin_by_x d) rfl (by kernel_rfl) (P := (CompL G d (fi__law_kin_by.inner s__law_kin_by_41_15 "_law_k" 5) (e__law_kin_by_41_15 d).x 5 [some (.val (.int c)), some (.val (.int 4)), some (.val (.str z_abcdefghijklmnopqrstuvwxyz)), some (.val (.str [(lt26 (c + 3 * 0)), (lt26 (c + 3 * 1)), (lt26 (c + 3 * 2)), (lt26 (c + 3 * 3)), (lt26 (c + 3 * 4)), (lt26 (c + 3 * 5)), (lt26 (c + 3 * 6)), (lt26 (c + 3 * 7))])), none, none] [.int 0, .int 1, .int 2, .int 3] [.str [(lt26 (c + 3 * 0))], .str [(lt26 (c + 3 * 0)), (lt26 (c + 3 * 1))], .str [(lt26 (c + 3 * 0)), (lt26 (c + 3 * 1)), (lt26 (c + 3 * 2))], .str [(lt26 (c + 3 * 0)), (lt26 (c + 3 * 1)), (lt26 (c + 3 * 2)), (lt26 (c + 3 * 3))]] ∧ 4 ≤ 1000000) ∧ (4 ≤ 1000000) ∧ (c / 26 % 2 == 0) = true ∧ ((0 : Int) < 2) ∧ ((0 : Int) < 26 ∧ (26 : Int) < 2 ^ 29) ∧ (8 ≤ 1000000) ∧ (CompL G d (fi__law_kin_by.inner s__law_kin_by_39_24 "_law_k" 5) (e__law_kin_by_39_24 d).x 5 [some (.val (.int c)), some (.val (.int 4)), some (.val (.str z_abcdefghijklmnopqrstuvwxyz)), none, none, none] [.int 0, .int 1, .int 2, .int 3, .int 4, .int 5, .int 6, .int 7] [.str [(lt26 (c + 3 * 0))], .str [(lt26 (c + 3 * 1))], .str [(lt26 (c + 3 * 2))], .str [(lt26 (c + 3 * 3))], .str [(lt26 (c + 3 * 4))], .str [(lt26 (c + 3 * 5))], .str [(lt26 (c + 3 * 6))], .str [(lt26 (c + 3 * 7))]] ∧ 8 ≤ 1000000) ∧ (8 ≤ 1000000) ∧ True) (by kernel_rfl) ⟨⟨kin_short c, by decide⟩, by decide, hb, by decide, by decide, by decide, ⟨hw, by decide⟩, by decide, trivial⟩⟩
  | false => exact ⟨[[0, 1, 2, 3, 4, 5, 6, 7], [1, 2, 3, 4, 5, 6, 7, 0], [2, 3, 4, 5, 6, 7, 0, 1], [3, 4, 5, 6, 7, 0, 1, 2]].map (fun w => w.map (fun i => lt26 (c + 3 * (i : Int)))), map_nodup hg [[0, 1, 2, 3, 4, 5, 6, 7], [1, 2, 3, 4, 5, 6, 7, 0], [2, 3, 4, 5, 6, 7, 0, 1], [3, 4, 5, 6, 7, 0, 1, 2]] (by decide) (by decide), rfl, call_go (n := 4) (tp := [.vs [.str [(lt26 (c + 3 * 0))], .str [(lt26 (c + 3 * 1))], .str [(lt26 (c + 3 * 2))], .str [(lt26 (c + 3 * 3))], .str [(lt26 (c + 3 * 4))], .str [(lt26 (c + 3 * 5))], .str [(lt26 (c + 3 * 6))], .str [(lt26 (c + 3 * 7))]], .b false, .vs [.str [(lt26 (c + 3 * 0)), (lt26 (c + 3 * 1)), (lt26 (c + 3 * 2)), (lt26 (c + 3 * 3)), (lt26 (c + 3 * 4)), (lt26 (c + 3 * 5)), (lt26 (c + 3 * 6)), (lt26 (c + 3 * 7))], .str [(lt26 (c + 3 * 1)), (lt26 (c + 3 * 2)), (lt26 (c + 3 * 3)), (lt26 (c + 3 * 4)), (lt26 (c + 3 * 5)), (lt26 (c + 3 * 6)), (lt26 (c + 3 * 7)), (lt26 (c + 3 * 0))], .str [(lt26 (c + 3 * 2)), (lt26 (c + 3 * 3)), (lt26 (c + 3 * 4)), (lt26 (c + 3 * 5)), (lt26 (c + 3 * 6)), (lt26 (c + 3 * 7)), (lt26 (c + 3 * 0)), (lt26 (c + 3 * 1))], .str [(lt26 (c + 3 * 3)), (lt26 (c + 3 * 4)), (lt26 (c + 3 * 5)), (lt26 (c + 3 * 6)), (lt26 (c + 3 * 7)), (lt26 (c + 3 * 0)), (lt26 (c + 3 * 1)), (lt26 (c + 3 * 2))], .str [(lt26 (c + 3 * 4)), (lt26 (c + 3 * 5)), (lt26 (c + 3 * 6)), (lt26 (c + 3 * 7)), (lt26 (c + 3 * 0)), (lt26 (c + 3 * 1)), (lt26 (c + 3 * 2)), (lt26 (c + 3 * 3))], .str [(lt26 (c + 3 * 5)), (lt26 (c + 3 * 6)), (lt26 (c + 3 * 7)), (lt26 (c + 3 * 0)), (lt26 (c + 3 * 1)), (lt26 (c + 3 * 2)), (lt26 (c + 3 * 3)), (lt26 (c + 3 * 4))], .str [(lt26 (c + 3 * 6)), (lt26 (c + 3 * 7)), (lt26 (c + 3 * 0)), (lt26 (c + 3 * 1)), (lt26 (c + 3 * 2)), (lt26 (c + 3 * 3)), (lt26 (c + 3 * 4)), (lt26 (c + 3 * 5))], .str [(lt26 (c + 3 * 7)), (lt26 (c + 3 * 0)), (lt26 (c + 3 * 1)), (lt26 (c + 3 * 2)), (lt26 (c + 3 * 3)), (lt26 (c + 3 * 4)), (lt26 (c + 3 * 5)), (lt26 (c + 3 * 6))]], .vs [.str [(lt26 (c + 3 * 7)), (lt26 (c + 3 * 6)), (lt26 (c + 3 * 5)), (lt26 (c + 3 * 4)), (lt26 (c + 3 * 3)), (lt26 (c + 3 * 2)), (lt26 (c + 3 * 1)), (lt26 (c + 3 * 0))], .str [(lt26 (c + 3 * 0)), (lt26 (c + 3 * 7)), (lt26 (c + 3 * 6)), (lt26 (c + 3 * 5)), (lt26 (c + 3 * 4)), (lt26 (c + 3 * 3)), (lt26 (c + 3 * 2)), (lt26 (c + 3 * 1))], .str [(lt26 (c + 3 * 1)), (lt26 (c + 3 * 0)), (lt26 (c + 3 * 7)), (lt26 (c + 3 * 6)), (lt26 (c + 3 * 5)), (lt26 (c + 3 * 4)), (lt26 (c + 3 * 3)), (lt26 (c + 3 * 2))], .str [(lt26 (c + 3 * 2)), (lt26 (c + 3 * 1)), (lt26 (c + 3 * 0)), (lt26 (c + 3 * 7)), (lt26 (c + 3 * 6)), (lt26 (c + 3 * 5)), (lt26 (c + 3 * 4)), (lt26 (c + 3 * 3))], .str [(lt26 (c + 3 * 3)), (lt26 (c + 3 * 2)), (lt26 (c + 3 * 1)), (lt26 (c + 3 * 0)), (lt26 (c + 3 * 7)), (lt26 (c + 3 * 6)), (lt26 (c + 3 * 5)), (lt26 (c + 3 * 4))], .str [(lt26 (c + 3 * 4)), (lt26 (c + 3 * 3)), (lt26 (c + 3 * 2)), (lt26 (c + 3 * 1)), (lt26 (c + 3 * 0)), (lt26 (c + 3 * 7)), (lt26 (c + 3 * 6)), (lt26 (c + 3 * 5))], .str [(lt26 (c + 3 * 5)), (lt26 (c + 3 * 4)), (lt26 (c + 3 * 3)), (lt26 (c + 3 * 2)), (lt26 (c + 3 * 1)), (lt26 (c + 3 * 0)), (lt26 (c + 3 * 7)), (lt26 (c + 3 * 6))], .str [(lt26 (c + 3 * 6)), (lt26 (c + 3 * 5)), (lt26 (c + 3 * 4)), (lt26 (c + 3 * 3)), (lt26 (c + 3 * 2)), (lt26 (c + 3 * 1)), (lt26 (c + 3 * 0)), (lt26 (c + 3 * 7))]]]) (b__law_kin_by d) rfl (b__law_kin_by_x d) rfl (by kernel_rfl) (P := (0 ≤ (4 : Int) ∧ (4 : Int) ≤ 1000000) ∧ (16 ≤ 1000000) ∧ (CompL G d (fi__law_kin_by.inner s__law_kin_by_43_26 "_law_one" 5) (e__law_kin_by_43_26 d).x 5 [some (.val (.int c)), some (.val (.int 4)), some (.val (.str z_abcdefghijklmnopqrstuvwxyz)), some (.val (.str [(lt26 (c + 3 * 0)), (lt26 (c + 3 * 1)), (lt26 (c + 3 * 2)), (lt26 (c + 3 * 3)), (lt26 (c + 3 * 4)), (lt26 (c + 3 * 5)), (lt26 (c + 3 * 6)), (lt26 (c + 3 * 7))])), some (.val (.lst [.str [(lt26 (c + 3 * 0)), (lt26 (c + 3 * 1)), (lt26 (c + 3 * 2)), (lt26 (c + 3 * 3)), (lt26 (c + 3 * 4)), (lt26 (c + 3 * 5)), (lt26 (c + 3 * 6)), (lt26 (c + 3 * 7))], .str [(lt26 (c + 3 * 1)), (lt26 (c + 3 * 2)), (lt26 (c + 3 * 3)), (lt26 (c + 3 * 4)), (lt26 (c + 3 * 5)), (lt26 (c + 3 * 6)), (lt26 (c + 3 * 7)), (lt26 (c + 3 * 0))], .str [(lt26 (c + 3 * 2)), (lt26 (c + 3 * 3)), (lt26 (c + 3 * 4)), (lt26 (c + 3 * 5)), (lt26 (c + 3 * 6)), (lt26 (c + 3 * 7)), (lt26 (c + 3 * 0)), (lt26 (c + 3 * 1))], .str [(lt26 (c + 3 * 3)), (lt26 (c + 3 * 4)), (lt26 (c + 3 * 5)), (lt26 (c + 3 * 6)), (lt26 (c + 3 * 7)), (lt26 (c + 3 * 0)), (lt26 (c + 3 * 1)), (lt26 (c + 3 * 2))], .str [(lt26 (c + 3 * 4)), (lt26 (c + 3 * 5)), (lt26 (c + 3 * 6)), (lt26 (c + 3 * 7)), (lt26 (c + 3 * 0)), (lt26 (c + 3 * 1)), (lt26 (c + 3 * 2)), (lt26 (c + 3 * 3))], .str [(lt26 (c + 3 * 5)), (lt26 (c + 3 * 6)), (lt26 (c + 3 * 7)), (lt26 (c + 3 * 0)), (lt26 (c + 3 * 1)), (lt26 (c + 3 * 2)), (lt26 (c + 3 * 3)), (lt26 (c + 3 * 4))], .str [(lt26 (c + 3 * 6)), (lt26 (c + 3 * 7)), (lt26 (c + 3 * 0)), (lt26 (c + 3 * 1)), (lt26 (c + 3 * 2)), (lt26 (c + 3 * 3)), (lt26 (c + 3 * 4)), (lt26 (c + 3 * 5))], .str [(lt26 (c + 3 * 7)), (lt26 (c + 3 * 0)), (lt26 (c + 3 * 1)), (lt26 (c + 3 * 2)), (lt26 (c + 3 * 3)), (lt26 (c + 3 * 4)), (lt26 (c + 3 * 5)), (lt26 (c + 3 * 6))]])), none] [.str [(lt26 (c + 3 * 0)), (lt26 (c + 3 * 1)), (lt26 (c + 3 * 2)), (lt26 (c + 3 * 3)), (lt26 (c + 3 * 4)), (lt26 (c + 3 * 5)), (lt26 (c + 3 * 6)), (lt26 (c + 3 * 7))], .str [(lt26 (c + 3 * 1)), (lt26 (c + 3 * 2)), (lt26 (c + 3 * 3)), (lt26 (c + 3 * 4)), (lt26 (c + 3 * 5)), (lt26 (c + 3 * 6)), (lt26 (c + 3 * 7)), (lt26 (c + 3 * 0))], .str [(lt26 (c + 3 * 2)), (lt26 (c + 3 * 3)), (lt26 (c + 3 * 4)), (lt26 (c + 3 * 5)), (lt26 (c + 3 * 6)), (lt26 (c + 3 * 7)), (lt26 (c + 3 * 0)), (lt26 (c + 3 * 1))], .str [(lt26 (c + 3 * 3)), (lt26 (c + 3 * 4)), (lt26 (c + 3 * 5)), (lt26 (c + 3 * 6)), (lt26 (c + 3 * 7)), (lt26 (c + 3 * 0)), (lt26 (c + 3 * 1)), (lt26 (c + 3 * 2))], .str [(lt26 (c + 3 * 4)), (lt26 (c + 3 * 5)), (lt26 (c + 3 * 6)), (lt26 (c + 3 * 7)), (lt26 (c + 3 * 0)), (lt26 (c + 3 * 1)), (lt26 (c + 3 * 2)), (lt26 (c + 3 * 3))], .str [(lt26 (c + 3 * 5)), (lt26 (c + 3 * 6)), (lt26 (c + 3 * 7)), (lt26 (c + 3 * 0)), (lt26 (c + 3 * 1)), (lt26 (c + 3 * 2)), (lt26 (c + 3 * 3)), (lt26 (c + 3 * 4))], .str [(lt26 (c + 3 * 6)), (lt26 (c + 3 * 7)), (lt26 (c + 3 * 0)), (lt26 (c + 3 * 1)), (lt26 (c + 3 * 2)), (lt26 (c + 3 * 3)), (lt26 (c + 3 * 4)), (lt26 (c + 3 * 5))], .str [(lt26 (c + 3 * 7)), (lt26 (c + 3 * 0)), (lt26 (c + 3 * 1)), (lt26 (c + 3 * 2)), (lt26 (c + 3 * 3)), (lt26 (c + 3 * 4)), (lt26 (c + 3 * 5)), (lt26 (c + 3 * 6))]] [.str [(lt26 (c + 3 * 7)), (lt26 (c + 3 * 6)), (lt26 (c + 3 * 5)), (lt26 (c + 3 * 4)), (lt26 (c + 3 * 3)), (lt26 (c + 3 * 2)), (lt26 (c + 3 * 1)), (lt26 (c + 3 * 0))], .str [(lt26 (c + 3 * 0)), (lt26 (c + 3 * 7)), (lt26 (c + 3 * 6)), (lt26 (c + 3 * 5)), (lt26 (c + 3 * 4)), (lt26 (c + 3 * 3)), (lt26 (c + 3 * 2)), (lt26 (c + 3 * 1))], .str [(lt26 (c + 3 * 1)), (lt26 (c + 3 * 0)), (lt26 (c + 3 * 7)), (lt26 (c + 3 * 6)), (lt26 (c + 3 * 5)), (lt26 (c + 3 * 4)), (lt26 (c + 3 * 3)), (lt26 (c + 3 * 2))], .str [(lt26 (c + 3 * 2)), (lt26 (c + 3 * 1)), (lt26 (c + 3 * 0)), (lt26 (c + 3 * 7)), (lt26 (c + 3 * 6)), (lt26 (c + 3 * 5)), (lt26 (c + 3 * 4)), (lt26 (c + 3 * 3))], .str [(lt26 (c + 3 * 3)), (lt26 (c + 3 * 2)), (lt26 (c + 3 * 1)), (lt26 (c + 3 * 0)), (lt26 (c + 3 * 7)), (lt26 (c + 3 * 6)), (lt26 (c + 3 * 5)), (lt26 (c + 3 * 4))], .str [(lt26 (c + 3 * 4)), (lt26 (c + 3 * 3)), (lt26 (c + 3 * 2)), (lt26 (c + 3 * 1)), (lt26 (c + 3 * 0)), (lt26 (c + 3 * 7)), (lt26 (c + 3 * 6)), (lt26 (c + 3 * 5))], .str [(lt26 (c + 3 * 5)), (lt26 (c + 3 * 4)), (lt26 (c + 3 * 3)), (lt26 (c + 3 * 2)), (lt26 (c + 3 * 1)), (lt26 (c + 3 * 0)), (lt26 (c + 3 * 7)), (lt26 (c + 3 * 6))], .str [(lt26 (c + 3 * 6)), (lt26 (c + 3 * 5)), (lt26 (c + 3 * 4)), (lt26 (c + 3 * 3)), (lt26 (c + 3 * 2)), (lt26 (c + 3 * 1)), (lt26 (c + 3 * 0)), (lt26 (c + 3 * 7))]] ∧ 8 ≤ 1000000) ∧ (CompL G d (fi__law_kin_by.inner s__law_kin_by_42_18 "_law_k" 5) (e__law_kin_by_42_18 d).x 5 [some (.val (.int c)), some (.val (.int 4)), some (.val (.str z_abcdefghijklmnopqrstuvwxyz)), some (.val (.str [(lt26 (c + 3 * 0)), (lt26 (c + 3 * 1)), (lt26 (c + 3 * 2)), (lt26 (c + 3 * 3)), (lt26 (c + 3 * 4)), (lt26 (c + 3 * 5)), (lt26 (c + 3 * 6)), (lt26 (c + 3 * 7))])), none, none] [.int 0, .int 1, .int 2, .int 3, .int 4, .int 5, .int 6, .int 7] [.str [(lt26 (c + 3 * 0)), (lt26 (c + 3 * 1)), (lt26 (c + 3 * 2)), (lt26 (c + 3 * 3)), (lt26 (c + 3 * 4)), (lt26 (c + 3 * 5)), (lt26 (c + 3 * 6)), (lt26 (c + 3 * 7))], .str [(lt26 (c + 3 * 1)), (lt26 (c + 3 * 2)), (lt26 (c + 3 * 3)), (lt26 (c + 3 * 4)), (lt26 (c + 3 * 5)), (lt26 (c + 3 * 6)), (lt26 (c + 3 * 7)), (lt26 (c + 3 * 0))], .str [(lt26 (c + 3 * 2)), (lt26 (c + 3 * 3)), (lt26 (c + 3 * 4)), (lt26 (c + 3 * 5)), (lt26 (c + 3 * 6)), (lt26 (c + 3 * 7)), (lt26 (c + 3 * 0)), (lt26 (c + 3 * 1))], .str [(lt26 (c + 3 * 3)), (lt26 (c + 3 * 4)), (lt26 (c + 3 * 5)), (lt26 (c + 3 * 6)), (lt26 (c + 3 * 7)), (lt26 (c + 3 * 0)), (lt26 (c + 3 * 1)), (lt26 (c + 3 * 2))], .str [(lt26 (c + 3 * 4)), (lt26 (c + 3 * 5)), (lt26 (c + 3 * 6)), (lt26 (c + 3 * 7)), (lt26 (c + 3 * 0)), (lt26 (c + 3 * 1)), (lt26 (c + 3 * 2)), (lt26 (c + 3 * 3))], .str [(lt26 (c + 3 * 5)), (lt26 (c + 3 * 6)), (lt26 (c + 3 * 7)), (lt26 (c + 3 * 0)), (lt26 (c + 3 * 1)), (lt26 (c + 3 * 2)), (lt26 (c + 3 * 3)), (lt26 (c + 3 * 4))], .str [(lt26 (c + 3 * 6)), (lt26 (c + 3 * 7)), (lt26 (c + 3 * 0)), (lt26 (c + 3 * 1)), (lt26 (c + 3 * 2)), (lt26 (c + 3 * 3)), (lt26 (c + 3 * 4)), (lt26 (c + 3 * 5))], .str [(lt26 (c + 3 * 7)), (lt26 (c + 3 * 0)), (lt26 (c + 3 * 1)), (lt26 (c + 3 * 2)), (lt26 (c + 3 * 3)), (lt26 (c + 3 * 4)), (lt26 (c + 3 * 5)), (lt26 (c + 3 * 6))]] ∧ 8 ≤ 1000000) ∧ (8 ≤ 1000000) ∧ (c / 26 % 2 == 0) = false ∧ ((0 : Int) < 2) ∧ ((0 : Int) < 26 ∧ (26 : Int) < 2 ^ 29) ∧ (8 ≤ 1000000) ∧ (CompL G d (fi__law_kin_by.inner s__law_kin_by_39_24 "_law_k" 5) (e__law_kin_by_39_24 d).x 5 [some (.val (.int c)), some (.val (.int 4)), some (.val (.str z_abcdefghijklmnopqrstuvwxyz)), none, none, none] [.int 0, .int 1, .int 2, .int 3, .int 4, .int 5, .int 6, .int 7] [.str [(lt26 (c + 3 * 0))], .str [(lt26 (c + 3 * 1))], .str [(lt26 (c + 3 * 2))], .str [(lt26 (c + 3 * 3))], .str [(lt26 (c + 3 * 4))], .str [(lt26 (c + 3 * 5))], .str [(lt26 (c + 3 * 6))], .str [(lt26 (c + 3 * 7))]] ∧ 8 ≤ 1000000) ∧ (8 ≤ 1000000) ∧ True) (by kernel_rfl) ⟨by decide, by decide, ⟨kin_back4 c, by decide⟩, ⟨kin_turned4 c, by decide⟩, by decide, hb, by decide, by decide, by decide, ⟨hw, by decide⟩, by decide, trivial⟩⟩
theorem ok_kin12 (c : Int) : ∃ nl : List (List Nat), nl.Nodup ∧ nl.length = 12 ∧ CallOK G (d + 1) 47 [.int c, .int 12] (.own (nl.map .str).reverse) := by
  have hw := kin_word12 (d := d) c (letter (c + 3 * 0)) (letter (c + 3 * 1)) (letter (c + 3 * 2)) (letter (c + 3 * 3)) (letter (c + 3 * 4)) (letter (c + 3 * 5)) (letter (c + 3 * 6)) (letter (c + 3 * 7))
  have hg : ∀ a : Nat, a < 8 → ∀ b : Nat, b < 8 → lt26 (c + 3 * (a : Int)) = lt26 (c + 3 * (b : Int)) → a = b := fun a ha b hb' e => by have := lt26_inj e; omega
  cases hb : c / 26 % 2 == 0 with
  | true => exact ⟨[[0, 1, 2, 3, 4, 5, 6, 7], [1, 2, 3, 4, 5, 6, 7, 0], [2, 3, 4, 5, 6, 7, 0, 1], [3, 4, 5, 6, 7, 0, 1, 2], [4, 5, 6, 7, 0, 1, 2, 3], [5, 6, 7, 0, 1, 2, 3, 4], [6, 7, 0, 1, 2, 3, 4, 5], [7, 0, 1, 2, 3, 4, 5, 6], [7, 6, 5, 4, 3, 2, 1, 0], [0, 7, 6, 5, 4, 3, 2, 1], [1, 0, 7, 6, 5, 4, 3, 2], [2, 1, 0, 7, 6, 5, 4, 3]].map (fun w => w.map (fun i => lt26 (c + 3 * (i : Int)))), map_nodup hg [[0, 1, 2, 3, 4, 5, 6, 7], [1, 2, 3, 4, 5, 6, 7, 0], [2, 3, 4, 5, 6, 7, 0, 1], [3, 4, 5, 6, 7, 0, 1, 2], [4, 5, 6, 7, 0, 1, 2, 3], [5, 6, 7, 0, 1, 2, 3, 4], [6, 7, 0, 1, 2, 3, 4, 5], [7, 0, 1, 2, 3, 4, 5, 6], [7, 6, 5, 4, 3, 2, 1, 0], [0, 7, 6, 5, 4, 3, 2, 1], [1, 0, 7, 6, 5, 4, 3, 2], [2, 1, 0, 7, 6, 5, 4, 3]] (by decide) (by decide), rfl, call_go (n := 4) (tp := [.vs [.str [(lt26 (c + 3 * 0))], .str [(lt26 (c + 3 * 1))], .str [(lt26 (c + 3 * 2))], .str [(lt26 (c + 3 * 3))], .str [(lt26 (c + 3 * 4))], .str [(lt26 (c + 3 * 5))], .str [(lt26 (c + 3 * 6))], .str [(lt26 (c + 3 * 7))]], .b true, .vs [.str [(lt26 (c + 3 * 0)), (lt26 (c + 3 * 1)), (lt26 (c + 3 * 2)), (lt26 (c + 3 * 3)), (lt26 (c + 3 * 4)), (lt26 (c + 3 * 5)), (lt26 (c + 3 * 6)), (lt26 (c + 3 * 7))], .str [(lt26 (c + 3 * 1)), (lt26 (c + 3 * 2)), (lt26 (c + 3 * 3)), (lt26 (c + 3 * 4)), (lt26 (c + 3 * 5)), (lt26 (c + 3 * 6)), (lt26 (c + 3 * 7)), (lt26 (c + 3 * 0))], .str [(lt26 (c + 3 * 2)), (lt26 (c + 3 * 3)), (lt26 (c + 3 * 4)), (lt26 (c + 3 * 5)), (lt26 (c + 3 * 6)), (lt26 (c + 3 * 7)), (lt26 (c + 3 * 0)), (lt26 (c + 3 * 1))], .str [(lt26 (c + 3 * 3)), (lt26 (c + 3 * 4)), (lt26 (c + 3 * 5)), (lt26 (c + 3 * 6)), (lt26 (c + 3 * 7)), (lt26 (c + 3 * 0)), (lt26 (c + 3 * 1)), (lt26 (c + 3 * 2))], .str [(lt26 (c + 3 * 4)), (lt26 (c + 3 * 5)), (lt26 (c + 3 * 6)), (lt26 (c + 3 * 7)), (lt26 (c + 3 * 0)), (lt26 (c + 3 * 1)), (lt26 (c + 3 * 2)), (lt26 (c + 3 * 3))], .str [(lt26 (c + 3 * 5)), (lt26 (c + 3 * 6)), (lt26 (c + 3 * 7)), (lt26 (c + 3 * 0)), (lt26 (c + 3 * 1)), (lt26 (c + 3 * 2)), (lt26 (c + 3 * 3)), (lt26 (c + 3 * 4))], .str [(lt26 (c + 3 * 6)), (lt26 (c + 3 * 7)), (lt26 (c + 3 * 0)), (lt26 (c + 3 * 1)), (lt26 (c + 3 * 2)), (lt26 (c + 3 * 3)), (lt26 (c + 3 * 4)), (lt26 (c + 3 * 5))], .str [(lt26 (c + 3 * 7)), (lt26 (c + 3 * 0)), (lt26 (c + 3 * 1)), (lt26 (c + 3 * 2)), (lt26 (c + 3 * 3)), (lt26 (c + 3 * 4)), (lt26 (c + 3 * 5)), (lt26 (c + 3 * 6))]], .vs [.str [(lt26 (c + 3 * 7)), (lt26 (c + 3 * 6)), (lt26 (c + 3 * 5)), (lt26 (c + 3 * 4)), (lt26 (c + 3 * 3)), (lt26 (c + 3 * 2)), (lt26 (c + 3 * 1)), (lt26 (c + 3 * 0))], .str [(lt26 (c + 3 * 0)), (lt26 (c + 3 * 7)), (lt26 (c + 3 * 6)), (lt26 (c + 3 * 5)), (lt26 (c + 3 * 4)), (lt26 (c + 3 * 3)), (lt26 (c + 3 * 2)), (lt26 (c + 3 * 1))], .str [(lt26 (c + 3 * 1)), (lt26 (c + 3 * 0)), (lt26 (c + 3 * 7)), (lt26 (c + 3 * 6)), (lt26 (c + 3 * 5)), (lt26 (c + 3 * 4)), (lt26 (c + 3 * 3)), (lt26 (c + 3 * 2))], .str [(lt26 (c + 3 * 2)), (lt26 (c + 3 * 1)), (lt26 (c + 3 * 0)), (lt26 (c + 3 * 7)), (lt26 (c + 3 * 6)), (lt26 (c + 3 * 5)), (lt26 (c + 3 * 4)), (lt26 (c + 3 * 3))], .str [(lt26 (c + 3 * 3)), (lt26 (c + 3 * 2)), (lt26 (c + 3 * 1)), (lt26 (c + 3 * 0)), (lt26 (c + 3 * 7)), (lt26 (c + 3 * 6)), (lt26 (c + 3 * 5)), (lt26 (c + 3 * 4))], .str [(lt26 (c + 3 * 4)), (lt26 (c + 3 * 3)), (lt26 (c + 3 * 2)), (lt26 (c + 3 * 1)), (lt26 (c + 3 * 0)), (lt26 (c + 3 * 7)), (lt26 (c + 3 * 6)), (lt26 (c + 3 * 5))], .str [(lt26 (c + 3 * 5)), (lt26 (c + 3 * 4)), (lt26 (c + 3 * 3)), (lt26 (c + 3 * 2)), (lt26 (c + 3 * 1)), (lt26 (c + 3 * 0)), (lt26 (c + 3 * 7)), (lt26 (c + 3 * 6))], .str [(lt26 (c + 3 * 6)), (lt26 (c + 3 * 5)), (lt26 (c + 3 * 4)), (lt26 (c + 3 * 3)), (lt26 (c + 3 * 2)), (lt26 (c + 3 * 1)), (lt26 (c + 3 * 0)), (lt26 (c + 3 * 7))]]]) (b__law_kin_by d) rfl (b__law_kin_by_x d) rfl (by kernel_rfl) (P := (0 ≤ (12 : Int) ∧ (12 : Int) ≤ 1000000) ∧ (16 ≤ 1000000) ∧ (CompL G d (fi__law_kin_by.inner s__law_kin_by_43_26 "_law_one" 5) (e__law_kin_by_43_26 d).x 5 [some (.val (.int c)), some (.val (.int 12)), some (.val (.str z_abcdefghijklmnopqrstuvwxyz)), some (.val (.str [(lt26 (c + 3 * 0)), (lt26 (c + 3 * 1)), (lt26 (c + 3 * 2)), (lt26 (c + 3 * 3)), (lt26 (c + 3 * 4)), (lt26 (c + 3 * 5)), (lt26 (c + 3 * 6)), (lt26 (c + 3 * 7))])), some (.val (.lst [.str [(lt26 (c + 3 * 0)), (lt26 (c + 3 * 1)), (lt26 (c + 3 * 2)), (lt26 (c + 3 * 3)), (lt26 (c + 3 * 4)), (lt26 (c + 3 * 5)), (lt26 (c + 3 * 6)), (lt26 (c + 3 * 7))], .str [(lt26 (c + 3 * 1)), (lt26 (c + 3 * 2)), (lt26 (c + 3 * 3)), (lt26 (c + 3 * 4)), (lt26 (c + 3 * 5)), (lt26 (c + 3 * 6)), (lt26 (c + 3 * 7)), (lt26 (c + 3 * 0))], .str [(lt26 (c + 3 * 2)), (lt26 (c + 3 * 3)), (lt26 (c + 3 * 4)), (lt26 (c + 3 * 5)), (lt26 (c + 3 * 6)), (lt26 (c + 3 * 7)), (lt26 (c + 3 * 0)), (lt26 (c + 3 * 1))], .str [(lt26 (c + 3 * 3)), (lt26 (c + 3 * 4)), (lt26 (c + 3 * 5)), (lt26 (c + 3 * 6)), (lt26 (c + 3 * 7)), (lt26 (c + 3 * 0)), (lt26 (c + 3 * 1)), (lt26 (c + 3 * 2))], .str [(lt26 (c + 3 * 4)), (lt26 (c + 3 * 5)), (lt26 (c + 3 * 6)), (lt26 (c + 3 * 7)), (lt26 (c + 3 * 0)), (lt26 (c + 3 * 1)), (lt26 (c + 3 * 2)), (lt26 (c + 3 * 3))], .str [(lt26 (c + 3 * 5)), (lt26 (c + 3 * 6)), (lt26 (c + 3 * 7)), (lt26 (c + 3 * 0)), (lt26 (c + 3 * 1)), (lt26 (c + 3 * 2)), (lt26 (c + 3 * 3)), (lt26 (c + 3 * 4))], .str [(lt26 (c + 3 * 6)), (lt26 (c + 3 * 7)), (lt26 (c + 3 * 0)), (lt26 (c + 3 * 1)), (lt26 (c + 3 * 2)), (lt26 (c + 3 * 3)), (lt26 (c + 3 * 4)), (lt26 (c + 3 * 5))], .str [(lt26 (c + 3 * 7)), (lt26 (c + 3 * 0)), (lt26 (c + 3 * 1)), (lt26 (c + 3 * 2)), (lt26 (c + 3 * 3)), (lt26 (c + 3 * 4)), (lt26 (c + 3 * 5)), (lt26 (c + 3 * 6))]])), none] [.str [(lt26 (c + 3 * 0)), (lt26 (c + 3 * 1)), (lt26 (c + 3 * 2)), (lt26 (c + 3 * 3)), (lt26 (c + 3 * 4)), (lt26 (c + 3 * 5)), (lt26 (c + 3 * 6)), (lt26 (c + 3 * 7))], .str [(lt26 (c + 3 * 1)), (lt26 (c + 3 * 2)), (lt26 (c + 3 * 3)), (lt26 (c + 3 * 4)), (lt26 (c + 3 * 5)), (lt26 (c + 3 * 6)), (lt26 (c + 3 * 7)), (lt26 (c + 3 * 0))], .str [(lt26 (c + 3 * 2)), (lt26 (c + 3 * 3)), (lt26 (c + 3 * 4)), (lt26 (c + 3 * 5)), (lt26 (c + 3 * 6)), (lt26 (c + 3 * 7)), (lt26 (c + 3 * 0)), (lt26 (c + 3 * 1))], .str [(lt26 (c + 3 * 3)), (lt26 (c + 3 * 4)), (lt26 (c + 3 * 5)), (lt26 (c + 3 * 6)), (lt26 (c + 3 * 7)), (lt26 (c + 3 * 0)), (lt26 (c + 3 * 1)), (lt26 (c + 3 * 2))], .str [(lt26 (c + 3 * 4)), (lt26 (c + 3 * 5)), (lt26 (c + 3 * 6)), (lt26 (c + 3 * 7)), (lt26 (c + 3 * 0)), (lt26 (c + 3 * 1)), (lt26 (c + 3 * 2)), (lt26 (c + 3 * 3))], .str [(lt26 (c + 3 * 5)), (lt26 (c + 3 * 6)), (lt26 (c + 3 * 7)), (lt26 (c + 3 * 0)), (lt26 (c + 3 * 1)), (lt26 (c + 3 * 2)), (lt26 (c + 3 * 3)), (lt26 (c + 3 * 4))], .str [(lt26 (c + 3 * 6)), (lt26 (c + 3 * 7)), (lt26 (c + 3 * 0)), (lt26 (c + 3 * 1)), (lt26 (c + 3 * 2)), (lt26 (c + 3 * 3)), (lt26 (c + 3 * 4)), (lt26 (c + 3 * 5))], .str [(lt26 (c + 3 * 7)), (lt26 (c + 3 * 0)), (lt26 (c + 3 * 1)), (lt26 (c + 3 * 2)), (lt26 (c + 3 * 3)), (lt26 (c + 3 * 4)), (lt26 (c + 3 * 5)), (lt26 (c + 3 * 6))]] [.str [(lt26 (c + 3 * 7)), (lt26 (c + 3 * 6)), (lt26 (c + 3 * 5)), (lt26 (c + 3 * 4)), (lt26 (c + 3 * 3)), (lt26 (c + 3 * 2)), (lt26 (c + 3 * 1)), (lt26 (c + 3 * 0))], .str [(lt26 (c + 3 * 0)), (lt26 (c + 3 * 7)), (lt26 (c + 3 * 6)), (lt26 (c + 3 * 5)), (lt26 (c + 3 * 4)), (lt26 (c + 3 * 3)), (lt26 (c + 3 * 2)), (lt26 (c + 3 * 1))], .str [(lt26 (c + 3 * 1)), (lt26 (c + 3 * 0)), (lt26 (c + 3 * 7)), (lt26 (c + 3 * 6)), (lt26 (c + 3 * 5)), (lt26 (c + 3 * 4)), (lt26 (c + 3 * 3)), (lt26 (c + 3 * 2))], .str [(lt26 (c + 3 * 2)), (lt26 (c + 3 * 1)), (lt26 (c + 3 * 0)), (lt26 (c + 3 * 7)), (lt26 (c + 3 * 6)), (lt26 (c + 3 * 5)), (lt26 (c + 3 * 4)), (lt26 (c + 3 * 3))], .str [(lt26 (c + 3 * 3)), (lt26 (c + 3 * 2)), (lt26 (c + 3 * 1)), (lt26 (c + 3 * 0)), (lt26 (c + 3 * 7)), (lt26 (c + 3 * 6)), (lt26 (c + 3 * 5)), (lt26 (c + 3 * 4))], .str [(lt26 (c + 3 * 4)), (lt26 (c + 3 * 3)), (lt26 (c + 3 * 2)), (lt26 (c + 3 * 1)), (lt26 (c + 3 * 0)), (lt26 (c + 3 * 7)), (lt26 (c + 3 * 6)), (lt26 (c + 3 * 5))], .str [(lt26 (c + 3 * 5)), (lt26 (c + 3 * 4)), (lt26 (c + 3 * 3)), (lt26 (c + 3 * 2)), (lt26 (c + 3 * 1)), (lt26 (c + 3 * 0)), (lt26 (c + 3 * 7)), (lt26 (c + 3 * 6))], .str [(lt26 (c + 3 * 6)), (lt26 (c + 3 * 5)), (lt26 (c + 3 * 4)), (lt26 (c + 3 * 3)), (lt26 (c + 3 * 2)), (lt26 (c + 3 * 1)), (lt26 (c + 3 * 0)), (lt26 (c + 3 * 7))]] ∧ 8 ≤ 1000000) ∧ (CompL G d (fi__law_kin_by.inner s__law_kin_by_42_18 "_law_k" 5) (e__law_kin_by_42_18 d).x 5 [some (.val (.int c)), some (.val (.int 12)), some (.val (.str z_abcdefghijklmnopqrstuvwxyz)), some (.val (.str [(lt26 (c + 3 * 0)), (lt26 (c + 3 * 1)), (lt26 (c + 3 * 2)), (lt26 (c + 3 * 3)), (lt26 (c + 3 * 4)), (lt26 (c + 3 * 5)), (lt26 (c + 3 * 6)), (lt26 (c + 3 * 7))])), none, none] [.int 0, .int 1, .int 2, .int 3, .int 4, .int 5, .int 6, .int 7] [.str [(lt26 (c + 3 * 0)), (lt26 (c + 3 * 1)), (lt26 (c + 3 * 2)), (lt26 (c + 3 * 3)), (lt26 (c + 3 * 4)), (lt26 (c + 3 * 5)), (lt26 (c + 3 * 6)), (lt26 (c + 3 * 7))], .str [(lt26 (c + 3 * 1)), (lt26 (c + 3 * 2)), (lt26 (c + 3 * 3)), (lt26 (c + 3 * 4)), (lt26 (c + 3 * 5)), (lt26 (c + 3 * 6)), (lt26 (c + 3 * 7)), (lt26 (c + 3 * 0))], .str [(lt26 (c + 3 * 2)), (lt26 (c + 3 * 3)), (lt26 (c + 3 * 4)), (lt26 (c + 3 * 5)), (lt26 (c + 3 * 6)), (lt26 (c + 3 * 7)), (lt26 (c + 3 * 0)), (lt26 (c + 3 * 1))], .str [(lt26 (c + 3 * 3)), (lt26 (c + 3 * 4)), (lt26 (c + 3 * 5)), (lt26 (c + 3 * 6)), (lt26 (c + 3 * 7)), (lt26 (c + 3 * 0)), (lt26 (c + 3 * 1)), (lt26 (c + 3 * 2))], .str [(lt26 (c + 3 * 4)), (lt26 (c + 3 * 5)), (lt26 (c + 3 * 6)), (lt26 (c + 3 * 7)), (lt26 (c + 3 * 0)), (lt26 (c + 3 * 1)), (lt26 (c + 3 * 2)), (lt26 (c + 3 * 3))], .str [(lt26 (c + 3 * 5)), (lt26 (c + 3 * 6)), (lt26 (c + 3 * 7)), (lt26 (c + 3 * 0)), (lt26 (c + 3 * 1)), (lt26 (c + 3 * 2)), (lt26 (c + 3 * 3)), (lt26 (c + 3 * 4))], .str [(lt26 (c + 3 * 6)), (lt26 (c + 3 * 7)), (lt26 (c + 3 * 0)), (lt26 (c + 3 * 1)), (lt26 (c + 3 * 2)), (lt26 (c + 3 * 3)), (lt26 (c + 3 * 4)), (lt26 (c + 3 * 5))], .str [(lt26 (c + 3 * 7)), (lt26 (c + 3 * 0)), (lt26 (c + 3 * 1)), (lt26 (c + 3 * 2)), (lt26 (c + 3 * 3)), (lt26 (c + 3 * 4)), (lt26 (c + 3 * 5)), (lt26 (c + 3 * 6))]] ∧ 8 ≤ 1000000) ∧ (8 ≤ 1000000) ∧ (c / 26 % 2 == 0) = true ∧ ((0 : Int) < 2) ∧ ((0 : Int) < 26 ∧ (26 : Int) < 2 ^ 29) ∧ (8 ≤ 1000000) ∧ (CompL G d (fi__law_kin_by.inner s__law_kin_by_39_24 "_law_k" 5) (e__law_kin_by_39_24 d).x 5 [some (.val (.int c)), some (.val (.int 12)), some (.val (.str z_abcdefghijklmnopqrstuvwxyz)), none, none, none] [.int 0, .int 1, .int 2, .int 3, .int 4, .int 5, .int 6, .int 7] [.str [(lt26 (c + 3 * 0))], .str [(lt26 (c + 3 * 1))], .str [(lt26 (c + 3 * 2))], .str [(lt26 (c + 3 * 3))], .str [(lt26 (c + 3 * 4))], .str [(lt26 (c + 3 * 5))], .str [(lt26 (c + 3 * 6))], .str [(lt26 (c + 3 * 7))]] ∧ 8 ≤ 1000000) ∧ (8 ≤ 1000000) ∧ True) (by kernel_rfl) ⟨by decide, by decide, ⟨kin_back12 c, by decide⟩, ⟨kin_turned12 c, by decide⟩, by decide, hb, by decide, by decide, by decide, ⟨hw, by decide⟩, by decide, trivial⟩⟩
  | false => exact ⟨[[0, 1, 2, 3, 4, 5, 6, 7], [1, 2, 3, 4, 5, 6, 7, 0], [2, 3, 4, 5, 6, 7, 0, 1], [3, 4, 5, 6, 7, 0, 1, 2], [4, 5, 6, 7, 0, 1, 2, 3], [5, 6, 7, 0, 1, 2, 3, 4], [6, 7, 0, 1, 2, 3, 4, 5], [7, 0, 1, 2, 3, 4, 5, 6], [7, 6, 5, 4, 3, 2, 1, 0], [0, 7, 6, 5, 4, 3, 2, 1], [1, 0, 7, 6, 5, 4, 3, 2], [2, 1, 0, 7, 6, 5, 4, 3]].map (fun w => w.map (fun i => lt26 (c + 3 * (i : Int)))), map_nodup hg [[0, 1, 2, 3, 4, 5, 6, 7], [1, 2, 3, 4, 5, 6, 7, 0], [2, 3, 4, 5, 6, 7, 0, 1], [3, 4, 5, 6, 7, 0, 1, 2], [4, 5, 6, 7, 0, 1, 2, 3], [5, 6, 7, 0, 1, 2, 3, 4], [6, 7, 0, 1, 2, 3, 4, 5], [7, 0, 1, 2, 3, 4, 5, 6], [7, 6, 5, 4, 3, 2, 1, 0], [0, 7, 6, 5, 4, 3, 2, 1], [1, 0, 7, 6, 5, 4, 3, 2], [2, 1, 0, 7, 6, 5, 4, 3]] (by decide) (by decide), rfl, call_go (n := 4) (tp := [.vs [.str [(lt26 (c + 3 * 0))], .str [(lt26 (c + 3 * 1))], .str [(lt26 (c + 3 * 2))], .str [(lt26 (c + 3 * 3))], .str [(lt26 (c + 3 * 4))], .str [(lt26 (c + 3 * 5))], .str [(lt26 (c + 3 * 6))], .str [(lt26 (c + 3 * 7))]], .b false, .vs [.str [(lt26 (c + 3 * 0)), (lt26 (c + 3 * 1)), (lt26 (c + 3 * 2)), (lt26 (c + 3 * 3)), (lt26 (c + 3 * 4)), (lt26 (c + 3 * 5)), (lt26 (c + 3 * 6)), (lt26 (c + 3 * 7))], .str [(lt26 (c + 3 * 1)), (lt26 (c + 3 * 2)), (lt26 (c + 3 * 3)), (lt26 (c + 3 * 4)), (lt26 (c + 3 * 5)), (lt26 (c + 3 * 6)), (lt26 (c + 3 * 7)), (lt26 (c + 3 * 0))], .str [(lt26 (c + 3 * 2)), (lt26 (c + 3 * 3)), (lt26 (c + 3 * 4)), (lt26 (c + 3 * 5)), (lt26 (c + 3 * 6)), (lt26 (c + 3 * 7)), (lt26 (c + 3 * 0)), (lt26 (c + 3 * 1))], .str [(lt26 (c + 3 * 3)), (lt26 (c + 3 * 4)), (lt26 (c + 3 * 5)), (lt26 (c + 3 * 6)), (lt26 (c + 3 * 7)), (lt26 (c + 3 * 0)), (lt26 (c + 3 * 1)), (lt26 (c + 3 * 2))], .str [(lt26 (c + 3 * 4)), (lt26 (c + 3 * 5)), (lt26 (c + 3 * 6)), (lt26 (c + 3 * 7)), (lt26 (c + 3 * 0)), (lt26 (c + 3 * 1)), (lt26 (c + 3 * 2)), (lt26 (c + 3 * 3))], .str [(lt26 (c + 3 * 5)), (lt26 (c + 3 * 6)), (lt26 (c + 3 * 7)), (lt26 (c + 3 * 0)), (lt26 (c + 3 * 1)), (lt26 (c + 3 * 2)), (lt26 (c + 3 * 3)), (lt26 (c + 3 * 4))], .str [(lt26 (c + 3 * 6)), (lt26 (c + 3 * 7)), (lt26 (c + 3 * 0)), (lt26 (c + 3 * 1)), (lt26 (c + 3 * 2)), (lt26 (c + 3 * 3)), (lt26 (c + 3 * 4)), (lt26 (c + 3 * 5))], .str [(lt26 (c + 3 * 7)), (lt26 (c + 3 * 0)), (lt26 (c + 3 * 1)), (lt26 (c + 3 * 2)), (lt26 (c + 3 * 3)), (lt26 (c + 3 * 4)), (lt26 (c + 3 * 5)), (lt26 (c + 3 * 6))]], .vs [.str [(lt26 (c + 3 * 7)), (lt26 (c + 3 * 6)), (lt26 (c + 3 * 5)), (lt26 (c + 3 * 4)), (lt26 (c + 3 * 3)), (lt26 (c + 3 * 2)), (lt26 (c + 3 * 1)), (lt26 (c + 3 * 0))], .str [(lt26 (c + 3 * 0)), (lt26 (c + 3 * 7)), (lt26 (c + 3 * 6)), (lt26 (c + 3 * 5)), (lt26 (c + 3 * 4)), (lt26 (c + 3 * 3)), (lt26 (c + 3 * 2)), (lt26 (c + 3 * 1))], .str [(lt26 (c + 3 * 1)), (lt26 (c + 3 * 0)), (lt26 (c + 3 * 7)), (lt26 (c + 3 * 6)), (lt26 (c + 3 * 5)), (lt26 (c + 3 * 4)), (lt26 (c + 3 * 3)), (lt26 (c + 3 * 2))], .str [(lt26 (c + 3 * 2)), (lt26 (c + 3 * 1)), (lt26 (c + 3 * 0)), (lt26 (c + 3 * 7)), (lt26 (c + 3 * 6)), (lt26 (c + 3 * 5)), (lt26 (c + 3 * 4)), (lt26 (c + 3 * 3))], .str [(lt26 (c + 3 * 3)), (lt26 (c + 3 * 2)), (lt26 (c + 3 * 1)), (lt26 (c + 3 * 0)), (lt26 (c + 3 * 7)), (lt26 (c + 3 * 6)), (lt26 (c + 3 * 5)), (lt26 (c + 3 * 4))], .str [(lt26 (c + 3 * 4)), (lt26 (c + 3 * 3)), (lt26 (c + 3 * 2)), (lt26 (c + 3 * 1)), (lt26 (c + 3 * 0)), (lt26 (c + 3 * 7)), (lt26 (c + 3 * 6)), (lt26 (c + 3 * 5))], .str [(lt26 (c + 3 * 5)), (lt26 (c + 3 * 4)), (lt26 (c + 3 * 3)), (lt26 (c + 3 * 2)), (lt26 (c + 3 * 1)), (lt26 (c + 3 * 0)), (lt26 (c + 3 * 7)), (lt26 (c + 3 * 6))], .str [(lt26 (c + 3 * 6)), (lt26 (c + 3 * 5)), (lt26 (c + 3 * 4)), (lt26 (c + 3 * 3)), (lt26 (c + 3 * 2)), (lt26 (c + 3 * 1)), (lt26 (c + 3 * 0)), (lt26 (c + 3 * 7))]]]) (b__law_kin_by d) rfl (b__law_kin_by_x d) rfl (by kernel_rfl) (P := (0 ≤ (12 : Int) ∧ (12 : Int) ≤ 1000000) ∧ (16 ≤ 1000000) ∧ (CompL G d (fi__law_kin_by.inner s__law_kin_by_43_26 "_law_one" 5) (e__law_kin_by_43_26 d).x 5 [some (.val (.int c)), some (.val (.int 12)), some (.val (.str z_abcdefghijklmnopqrstuvwxyz)), some (.val (.str [(lt26 (c + 3 * 0)), (lt26 (c + 3 * 1)), (lt26 (c + 3 * 2)), (lt26 (c + 3 * 3)), (lt26 (c + 3 * 4)), (lt26 (c + 3 * 5)), (lt26 (c + 3 * 6)), (lt26 (c + 3 * 7))])), some (.val (.lst [.str [(lt26 (c + 3 * 0)), (lt26 (c + 3 * 1)), (lt26 (c + 3 * 2)), (lt26 (c + 3 * 3)), (lt26 (c + 3 * 4)), (lt26 (c + 3 * 5)), (lt26 (c + 3 * 6)), (lt26 (c + 3 * 7))], .str [(lt26 (c + 3 * 1)), (lt26 (c + 3 * 2)), (lt26 (c + 3 * 3)), (lt26 (c + 3 * 4)), (lt26 (c + 3 * 5)), (lt26 (c + 3 * 6)), (lt26 (c + 3 * 7)), (lt26 (c + 3 * 0))], .str [(lt26 (c + 3 * 2)), (lt26 (c + 3 * 3)), (lt26 (c + 3 * 4)), (lt26 (c + 3 * 5)), (lt26 (c + 3 * 6)), (lt26 (c + 3 * 7)), (lt26 (c + 3 * 0)), (lt26 (c + 3 * 1))], .str [(lt26 (c + 3 * 3)), (lt26 (c + 3 * 4)), (lt26 (c + 3 * 5)), (lt26 (c + 3 * 6)), (lt26 (c + 3 * 7)), (lt26 (c + 3 * 0)), (lt26 (c + 3 * 1)), (lt26 (c + 3 * 2))], .str [(lt26 (c + 3 * 4)), (lt26 (c + 3 * 5)), (lt26 (c + 3 * 6)), (lt26 (c + 3 * 7)), (lt26 (c + 3 * 0)), (lt26 (c + 3 * 1)), (lt26 (c + 3 * 2)), (lt26 (c + 3 * 3))], .str [(lt26 (c + 3 * 5)), (lt26 (c + 3 * 6)), (lt26 (c + 3 * 7)), (lt26 (c + 3 * 0)), (lt26 (c + 3 * 1)), (lt26 (c + 3 * 2)), (lt26 (c + 3 * 3)), (lt26 (c + 3 * 4))], .str [(lt26 (c + 3 * 6)), (lt26 (c + 3 * 7)), (lt26 (c + 3 * 0)), (lt26 (c + 3 * 1)), (lt26 (c + 3 * 2)), (lt26 (c + 3 * 3)), (lt26 (c + 3 * 4)), (lt26 (c + 3 * 5))], .str [(lt26 (c + 3 * 7)), (lt26 (c + 3 * 0)), (lt26 (c + 3 * 1)), (lt26 (c + 3 * 2)), (lt26 (c + 3 * 3)), (lt26 (c + 3 * 4)), (lt26 (c + 3 * 5)), (lt26 (c + 3 * 6))]])), none] [.str [(lt26 (c + 3 * 0)), (lt26 (c + 3 * 1)), (lt26 (c + 3 * 2)), (lt26 (c + 3 * 3)), (lt26 (c + 3 * 4)), (lt26 (c + 3 * 5)), (lt26 (c + 3 * 6)), (lt26 (c + 3 * 7))], .str [(lt26 (c + 3 * 1)), (lt26 (c + 3 * 2)), (lt26 (c + 3 * 3)), (lt26 (c + 3 * 4)), (lt26 (c + 3 * 5)), (lt26 (c + 3 * 6)), (lt26 (c + 3 * 7)), (lt26 (c + 3 * 0))], .str [(lt26 (c + 3 * 2)), (lt26 (c + 3 * 3)), (lt26 (c + 3 * 4)), (lt26 (c + 3 * 5)), (lt26 (c + 3 * 6)), (lt26 (c + 3 * 7)), (lt26 (c + 3 * 0)), (lt26 (c + 3 * 1))], .str [(lt26 (c + 3 * 3)), (lt26 (c + 3 * 4)), (lt26 (c + 3 * 5)), (lt26 (c + 3 * 6)), (lt26 (c + 3 * 7)), (lt26 (c + 3 * 0)), (lt26 (c + 3 * 1)), (lt26 (c + 3 * 2))], .str [(lt26 (c + 3 * 4)), (lt26 (c + 3 * 5)), (lt26 (c + 3 * 6)), (lt26 (c + 3 * 7)), (lt26 (c + 3 * 0)), (lt26 (c + 3 * 1)), (lt26 (c + 3 * 2)), (lt26 (c + 3 * 3))], .str [(lt26 (c + 3 * 5)), (lt26 (c + 3 * 6)), (lt26 (c + 3 * 7)), (lt26 (c + 3 * 0)), (lt26 (c + 3 * 1)), (lt26 (c + 3 * 2)), (lt26 (c + 3 * 3)), (lt26 (c + 3 * 4))], .str [(lt26 (c + 3 * 6)), (lt26 (c + 3 * 7)), (lt26 (c + 3 * 0)), (lt26 (c + 3 * 1)), (lt26 (c + 3 * 2)), (lt26 (c + 3 * 3)), (lt26 (c + 3 * 4)), (lt26 (c + 3 * 5))], .str [(lt26 (c + 3 * 7)), (lt26 (c + 3 * 0)), (lt26 (c + 3 * 1)), (lt26 (c + 3 * 2)), (lt26 (c + 3 * 3)), (lt26 (c + 3 * 4)), (lt26 (c + 3 * 5)), (lt26 (c + 3 * 6))]] [.str [(lt26 (c + 3 * 7)), (lt26 (c + 3 * 6)), (lt26 (c + 3 * 5)), (lt26 (c + 3 * 4)), (lt26 (c + 3 * 3)), (lt26 (c + 3 * 2)), (lt26 (c + 3 * 1)), (lt26 (c + 3 * 0))], .str [(lt26 (c + 3 * 0)), (lt26 (c + 3 * 7)), (lt26 (c + 3 * 6)), (lt26 (c + 3 * 5)), (lt26 (c + 3 * 4)), (lt26 (c + 3 * 3)), (lt26 (c + 3 * 2)), (lt26 (c + 3 * 1))], .str [(lt26 (c + 3 * 1)), (lt26 (c + 3 * 0)), (lt26 (c + 3 * 7)), (lt26 (c + 3 * 6)), (lt26 (c + 3 * 5)), (lt26 (c + 3 * 4)), (lt26 (c + 3 * 3)), (lt26 (c + 3 * 2))], .str [(lt26 (c + 3 * 2)), (lt26 (c + 3 * 1)), (lt26 (c + 3 * 0)), (lt26 (c + 3 * 7)), (lt26 (c + 3 * 6)), (lt26 (c + 3 * 5)), (lt26 (c + 3 * 4)), (lt26 (c + 3 * 3))], .str [(lt26 (c + 3 * 3)), (lt26 (c + 3 * 2)), (lt26 (c + 3 * 1)), (lt26 (c + 3 * 0)), (lt26 (c + 3 * 7)), (lt26 (c + 3 * 6)), (lt26 (c + 3 * 5)), (lt26 (c + 3 * 4))], .str [(lt26 (c + 3 * 4)), (lt26 (c + 3 * 3)), (lt26 (c + 3 * 2)), (lt26 (c + 3 * 1)), (lt26 (c + 3 * 0)), (lt26 (c + 3 * 7)), (lt26 (c + 3 * 6)), (lt26 (c + 3 * 5))], .str [(lt26 (c + 3 * 5)), (lt26 (c + 3 * 4)), (lt26 (c + 3 * 3)), (lt26 (c + 3 * 2)), (lt26 (c + 3 * 1)), (lt26 (c + 3 * 0)), (lt26 (c + 3 * 7)), (lt26 (c + 3 * 6))], .str [(lt26 (c + 3 * 6)), (lt26 (c + 3 * 5)), (lt26 (c + 3 * 4)), (lt26 (c + 3 * 3)), (lt26 (c + 3 * 2)), (lt26 (c + 3 * 1)), (lt26 (c + 3 * 0)), (lt26 (c + 3 * 7))]] ∧ 8 ≤ 1000000) ∧ (CompL G d (fi__law_kin_by.inner s__law_kin_by_42_18 "_law_k" 5) (e__law_kin_by_42_18 d).x 5 [some (.val (.int c)), some (.val (.int 12)), some (.val (.str z_abcdefghijklmnopqrstuvwxyz)), some (.val (.str [(lt26 (c + 3 * 0)), (lt26 (c + 3 * 1)), (lt26 (c + 3 * 2)), (lt26 (c + 3 * 3)), (lt26 (c + 3 * 4)), (lt26 (c + 3 * 5)), (lt26 (c + 3 * 6)), (lt26 (c + 3 * 7))])), none, none] [.int 0, .int 1, .int 2, .int 3, .int 4, .int 5, .int 6, .int 7] [.str [(lt26 (c + 3 * 0)), (lt26 (c + 3 * 1)), (lt26 (c + 3 * 2)), (lt26 (c + 3 * 3)), (lt26 (c + 3 * 4)), (lt26 (c + 3 * 5)), (lt26 (c + 3 * 6)), (lt26 (c + 3 * 7))], .str [(lt26 (c + 3 * 1)), (lt26 (c + 3 * 2)), (lt26 (c + 3 * 3)), (lt26 (c + 3 * 4)), (lt26 (c + 3 * 5)), (lt26 (c + 3 * 6)), (lt26 (c + 3 * 7)), (lt26 (c + 3 * 0))], .str [(lt26 (c + 3 * 2)), (lt26 (c + 3 * 3)), (lt26 (c + 3 * 4)), (lt26 (c + 3 * 5)), (lt26 (c + 3 * 6)), (lt26 (c + 3 * 7)), (lt26 (c + 3 * 0)), (lt26 (c + 3 * 1))], .str [(lt26 (c + 3 * 3)), (lt26 (c + 3 * 4)), (lt26 (c + 3 * 5)), (lt26 (c + 3 * 6)), (lt26 (c + 3 * 7)), (lt26 (c + 3 * 0)), (lt26 (c + 3 * 1)), (lt26 (c + 3 * 2))], .str [(lt26 (c + 3 * 4)), (lt26 (c + 3 * 5)), (lt26 (c + 3 * 6)), (lt26 (c + 3 * 7)), (lt26 (c + 3 * 0)), (lt26 (c + 3 * 1)), (lt26 (c + 3 * 2)), (lt26 (c + 3 * 3))], .str [(lt26 (c + 3 * 5)), (lt26 (c + 3 * 6)), (lt26 (c + 3 * 7)), (lt26 (c + 3 * 0)), (lt26 (c + 3 * 1)), (lt26 (c + 3 * 2)), (lt26 (c + 3 * 3)), (lt26 (c + 3 * 4))], .str [(lt26 (c + 3 * 6)), (lt26 (c + 3 * 7)), (lt26 (c + 3 * 0)), (lt26 (c + 3 * 1)), (lt26 (c + 3 * 2)), (lt26 (c + 3 * 3)), (lt26 (c + 3 * 4)), (lt26 (c + 3 * 5))], .str [(lt26 (c + 3 * 7)), (lt26 (c + 3 * 0)), (lt26 (c + 3 * 1)), (lt26 (c + 3 * 2)), (lt26 (c + 3 * 3)), (lt26 (c + 3 * 4)), (lt26 (c + 3 * 5)), (lt26 (c + 3 * 6))]] ∧ 8 ≤ 1000000) ∧ (8 ≤ 1000000) ∧ (c / 26 % 2 == 0) = false ∧ ((0 : Int) < 2) ∧ ((0 : Int) < 26 ∧ (26 : Int) < 2 ^ 29) ∧ (8 ≤ 1000000) ∧ (CompL G d (fi__law_kin_by.inner s__law_kin_by_39_24 "_law_k" 5) (e__law_kin_by_39_24 d).x 5 [some (.val (.int c)), some (.val (.int 12)), some (.val (.str z_abcdefghijklmnopqrstuvwxyz)), none, none, none] [.int 0, .int 1, .int 2, .int 3, .int 4, .int 5, .int 6, .int 7] [.str [(lt26 (c + 3 * 0))], .str [(lt26 (c + 3 * 1))], .str [(lt26 (c + 3 * 2))], .str [(lt26 (c + 3 * 3))], .str [(lt26 (c + 3 * 4))], .str [(lt26 (c + 3 * 5))], .str [(lt26 (c + 3 * 6))], .str [(lt26 (c + 3 * 7))]] ∧ 8 ≤ 1000000) ∧ (8 ≤ 1000000) ∧ True) (by kernel_rfl) ⟨by decide, by decide, ⟨kin_back12 c, by decide⟩, ⟨kin_turned12 c, by decide⟩, by decide, hb, by decide, by decide, by decide, ⟨hw, by decide⟩, by decide, trivial⟩⟩
end
end Mine
end

section
open PySem
set_option autoImplicit false
namespace Mine
abbrev Nm := List Nat
noncomputable def occ (t : Mine.Tree) : List Nm → Nat → List (Nat × Nm) := Tree.rec (motive := fun _ => List Nm → Nat → List (Nat × Nm)) (fun _ _ _ => []) (fun x bd o => if x ∈ bd then [] else [(o, x)]) (fun x _ f bd o => f (bd ++ [x]) (o + 1))
  (fun a _ f g bd o => f bd (o + 1) ++ g bd (o + 1 + sz a)) (fun a _ f g bd o => f bd (o + 1) ++ g bd (o + 1 + sz a)) (fun a _ f g bd o => f bd (o + 1) ++ g bd (o + 1 + sz a))
  (fun c a _ f g h bd o => f bd (o + 1) ++ (g bd (o + 1 + sz c) ++ h bd (o + 1 + sz c + sz a))) (fun x e _ f g bd o => f bd (o + 1) ++ g (bd ++ [x]) (o + 1 + sz e)) t
def Rng (l : List (Nat × Nm)) (a b : Nat) : Prop := l.Pairwise (fun p q => p.1 < q.1) ∧ ∀ p ∈ l, a ≤ p.1 ∧ p.1 < b
theorem Rng.app {l m : List (Nat × Nm)} {a b c : Nat} (h : Rng l a b) (k : Rng m b c) (hab : a ≤ b) (hbc : b ≤ c) : Rng (l ++ m) a c := by
  refine ⟨List.pairwise_append.mpr ⟨h.1, k.1, fun p hp q hq => ?_⟩, fun p hp => ?_⟩
  · have := h.2 p hp; have := k.2 q hq; omega
  · rcases List.mem_append.mp hp with z | z
    · have := h.2 p z; omega
    · have := k.2 p z; omega
theorem Rng.mono {l : List (Nat × Nm)} {a b a' b' : Nat} (h : Rng l a b) (x : a' ≤ a) (y : b ≤ b') : Rng l a' b' := ⟨h.1, fun p hp => by have := h.2 p hp; omega⟩
theorem occ_rng (t : Mine.Tree) : ∀ bd o, Rng (occ t bd o) o (o + sz t) := by
  induction t with
  | num i => intro bd o; exact ⟨.nil, fun _ q => by cases q⟩
  | name x =>
    intro bd o
    show Rng (if x ∈ bd then [] else [(o, x)]) o (o + 1)
    split
    · exact ⟨.nil, fun _ q => by cases q⟩
    · exact ⟨List.pairwise_singleton _ _, fun p q => by cases List.mem_singleton.mp q; exact ⟨Nat.le_refl _, Nat.lt_succ_self _⟩⟩
  | fn x b ib => intro bd o; exact (ib (bd ++ [x]) (o + 1)).mono (by omega) (by show _ ≤ o + (sz b + 1); omega)
  | call a b ia ib => intro bd o; exact ((ia bd (o + 1)).app (ib bd (o + 1 + sz a)) (by omega) (by omega)).mono (by omega) (by show _ ≤ o + (sz a + sz b + 1); omega)
  | plus a b ia ib => intro bd o; exact ((ia bd (o + 1)).app (ib bd (o + 1 + sz a)) (by omega) (by omega)).mono (by omega) (by show _ ≤ o + (sz a + sz b + 1); omega)
  | less a b ia ib => intro bd o; exact ((ia bd (o + 1)).app (ib bd (o + 1 + sz a)) (by omega) (by omega)).mono (by omega) (by show _ ≤ o + (sz a + sz b + 1); omega)
  | ite c a b ic ia ib => intro bd o; exact ((ic bd (o + 1)).app ((ia bd (o + 1 + sz c)).app (ib bd (o + 1 + sz c + sz a)) (by omega) (by omega)) (by omega) (by omega)).mono (by omega) (by show _ ≤ o + (sz c + sz a + sz b + 1); omega)
  | lt x e b ie ib => intro bd o; exact ((ie bd (o + 1)).app (ib (bd ++ [x]) (o + 1 + sz e)) (by omega) (by omega)).mono (by omega) (by show _ ≤ o + (sz e + sz b + 1); omega)
theorem occ_nm {N : List Nm} (t : Mine.Tree) : ∀ bd o, nmIn N t → ∀ p ∈ occ t bd o, p.2 ∈ N := by
  induction t with
  | num i => intro bd o _ p hp; cases hp
  | name x =>
    intro bd o h p hp
    have hp : p ∈ (if x ∈ bd then [] else [(o, x)]) := hp
    split at hp
    · cases hp
    · cases List.mem_singleton.mp hp; exact h
  | fn x b ib => intro bd o h; exact ib _ _ h
  | call a b ia ib => intro bd o h p hp; exact (List.mem_append.mp hp).elim (ia _ _ h.1 p) (ib _ _ h.2 p)
  | plus a b ia ib => intro bd o h p hp; exact (List.mem_append.mp hp).elim (ia _ _ h.1 p) (ib _ _ h.2 p)
  | less a b ia ib => intro bd o h p hp; exact (List.mem_append.mp hp).elim (ia _ _ h.1 p) (ib _ _ h.2 p)
  | ite c a b ic ia ib => intro bd o h p hp; exact (List.mem_append.mp hp).elim (ic _ _ h.1 p) fun q => (List.mem_append.mp q).elim (ia _ _ h.2.1 p) (ib _ _ h.2.2 p)
  | lt x e b ie ib => intro bd o h p hp; exact (List.mem_append.mp hp).elim (ie _ _ h.1 p) (ib _ _ h.2 p)
def addF (F : List Nm) (l : List (Nat × Nm)) : List Nm := l.foldl (fun F p => if p.2 ∈ F then F else p.2 :: F) F
theorem addF_app (F : List Nm) (l m : List (Nat × Nm)) : addF F (l ++ m) = addF (addF F l) m := List.foldl_append ..
theorem fr_occ (t : Mine.Tree) : ∀ bd F o, fr t bd F = addF F (occ t bd o) := by
  induction t with
  | num i => intro bd F o; rfl
  | name x =>
    intro bd F o
    show addN bd F x = addF F (if x ∈ bd then [] else [(o, x)])
    unfold addN
    by_cases h : x ∈ bd
    · rw [if_pos (.inl h), if_pos h]; rfl
    · rw [if_neg h]
      show _ = if x ∈ F then F else x :: F
      by_cases q : x ∈ F
      · rw [if_pos (.inr q), if_pos q]
      · rw [if_neg (fun z => z.elim h q), if_neg q]
  | fn x b ib => intro bd F o; exact ib (bd ++ [x]) F (o + 1)
  | call a b ia ib => intro bd F o; show fr b bd (fr a bd F) = addF F (occ a bd (o + 1) ++ occ b bd (o + 1 + sz a)); rw [addF_app, ← ia, ← ib]
  | plus a b ia ib => intro bd F o; show fr b bd (fr a bd F) = addF F (occ a bd (o + 1) ++ occ b bd (o + 1 + sz a)); rw [addF_app, ← ia, ← ib]
  | less a b ia ib => intro bd F o; show fr b bd (fr a bd F) = addF F (occ a bd (o + 1) ++ occ b bd (o + 1 + sz a)); rw [addF_app, ← ia, ← ib]
  | ite c a b ic ia ib => intro bd F o; show fr b bd (fr a bd (fr c bd F)) = addF F (occ c bd (o + 1) ++ (occ a bd (o + 1 + sz c) ++ occ b bd (o + 1 + sz c + sz a))); rw [addF_app, addF_app, ← ic, ← ia, ← ib]
  | lt x e b ie ib => intro bd F o; show fr b (bd ++ [x]) (fr e bd F) = addF F (occ e bd (o + 1) ++ occ b (bd ++ [x]) (o + 1 + sz e)); rw [addF_app, ← ie, ← ib]
abbrev fnd (n : Nm) (l : List (Nat × Nm)) : Option (Nat × Nm) := l.find? (fun p => p.2 == n)
theorem fwh_occ (n : Nm) (t : Mine.Tree) : ∀ bd o, fnd n (occ t bd o) = (fwh n t (decide (n ∈ bd))).map (fun k => (k + o, n)) := by
  have orr : ∀ (l m : List (Nat × Nm)), fnd n (l ++ m) = (fnd n l).or (fnd n m) := fun l m => List.find?_append ..
  have shf : ∀ (x y : Option Nat) (a b o : Nat), b = o + a → x.map (fun k => (k + b, n)) = (x.map (· + a)).map (fun k => (k + o, n)) := fun x y a b o h => by
    rw [Option.map_map]; congr 1; funext k; show (k + b, n) = (k + a + o, n); congr 1; omega
  have mor : ∀ (x y : Option Nat) (o : Nat), (x.or y).map (fun k => (k + o, n)) = (x.map (fun k => (k + o, n))).or (y.map (fun k => (k + o, n))) := fun x y o => by cases x <;> rfl
  have bnd : ∀ (x : Nm) (bd : List Nm), decide (n ∈ bd ++ [x]) = (decide (n ∈ bd) || x == n) := fun x bd => by
    by_cases h : n ∈ bd
    · simp [h]
    · by_cases q : x = n
      · subst q; simp
      · have : ¬ n = x := fun z => q z.symm
        simp [h, q, this]
  induction t with
  | num i => intro bd o; rfl
  | name x =>
    intro bd o
    show fnd n (if x ∈ bd then [] else [(o, x)]) = (Bool.casesOn (x == n) none (Bool.casesOn (decide (n ∈ bd)) (some 0) none) : Option Nat).map _
    by_cases q : x = n
    · subst q
      rw [beq_self_eq_true]
      by_cases h : x ∈ bd
      · rw [if_pos h, decide_eq_true h]; rfl
      · rw [if_neg h, decide_eq_false h]
        show List.find? _ [(o, x)] = some (0 + o, x)
        rw [List.find?_cons]; simp
    · have q' : (x == n) = false := by simpa using q
      rw [q']
      by_cases h : x ∈ bd
      · rw [if_pos h]; rfl
      · rw [if_neg h]
        show List.find? _ [(o, x)] = none
        rw [List.find?_cons]
        show (match x == n with | true => some (o, x) | false => none) = none
        rw [q']
  | fn x b ib =>
    intro bd o
    show fnd n (occ b (bd ++ [x]) (o + 1)) = ((fwh n b (decide (n ∈ bd) || x == n)).map (· + 1)).map _
    rw [ib, bnd, shf _ none 1 (o + 1) o rfl]
  | call a b ia ib =>
    intro bd o
    show fnd n (occ a bd (o + 1) ++ occ b bd (o + 1 + sz a)) = (((fwh n a (decide (n ∈ bd))).map (· + 1)).or ((fwh n b (decide (n ∈ bd))).map (· + (1 + sz a)))).map _
    rw [orr, ia, ib, mor, shf _ none 1 (o + 1) o rfl, shf _ none (1 + sz a) (o + 1 + sz a) o (by omega)]
  | plus a b ia ib =>
    intro bd o
    show fnd n (occ a bd (o + 1) ++ occ b bd (o + 1 + sz a)) = (((fwh n a (decide (n ∈ bd))).map (· + 1)).or ((fwh n b (decide (n ∈ bd))).map (· + (1 + sz a)))).map _
    rw [orr, ia, ib, mor, shf _ none 1 (o + 1) o rfl, shf _ none (1 + sz a) (o + 1 + sz a) o (by omega)]
  | less a b ia ib =>
    intro bd o
    show fnd n (occ a bd (o + 1) ++ occ b bd (o + 1 + sz a)) = (((fwh n a (decide (n ∈ bd))).map (· + 1)).or ((fwh n b (decide (n ∈ bd))).map (· + (1 + sz a)))).map _
    rw [orr, ia, ib, mor, shf _ none 1 (o + 1) o rfl, shf _ none (1 + sz a) (o + 1 + sz a) o (by omega)]
  | ite c a b ic ia ib =>
    intro bd o
    show fnd n (occ c bd (o + 1) ++ (occ a bd (o + 1 + sz c) ++ occ b bd (o + 1 + sz c + sz a))) = (((fwh n c (decide (n ∈ bd))).map (· + 1)).or (((fwh n a (decide (n ∈ bd))).map (· + (1 + sz c))).or ((fwh n b (decide (n ∈ bd))).map (· + (1 + sz c + sz a))))).map _
    rw [orr, orr, ic, ia, ib, mor, mor, shf _ none 1 (o + 1) o rfl, shf _ none (1 + sz c) (o + 1 + sz c) o (by omega), shf _ none (1 + sz c + sz a) (o + 1 + sz c + sz a) o (by omega)]
  | lt x e b ie ib =>
    intro bd o
    show fnd n (occ e bd (o + 1) ++ occ b (bd ++ [x]) (o + 1 + sz e)) = (((fwh n e (decide (n ∈ bd))).map (· + 1)).or ((fwh n b (decide (n ∈ bd) || x == n)).map (· + (1 + sz e)))).map _
    rw [orr, ie, ib, mor, bnd, shf _ none 1 (o + 1) o rfl, shf _ none (1 + sz e) (o + 1 + sz e) o (by omega)]
theorem addF_mem {x : Nm} : ∀ (l : List (Nat × Nm)) (F : List Nm), x ∈ addF F l ↔ x ∈ F ∨ ∃ p ∈ l, p.2 = x
  | [], F => by simp [addF]
  | q :: l, F => by
    show x ∈ addF (if q.2 ∈ F then F else q.2 :: F) l ↔ _
    rw [addF_mem l]
    by_cases h : q.2 ∈ F
    · rw [if_pos h]
      constructor
      · rintro (z | ⟨p, hp, e⟩)
        · exact .inl z
        · exact .inr ⟨p, List.mem_cons_of_mem _ hp, e⟩
      · rintro (z | ⟨p, hp, e⟩)
        · exact .inl z
        · rcases List.mem_cons.mp hp with rfl | hp
          · exact .inl (e ▸ h)
          · exact .inr ⟨p, hp, e⟩
    · rw [if_neg h]
      constructor
      · rintro (z | ⟨p, hp, e⟩)
        · rcases List.mem_cons.mp z with rfl | z
          · exact .inr ⟨q, List.mem_cons_self, rfl⟩
          · exact .inl z
        · exact .inr ⟨p, List.mem_cons_of_mem _ hp, e⟩
      · rintro (z | ⟨p, hp, e⟩)
        · exact .inl (List.mem_cons_of_mem _ z)
        · rcases List.mem_cons.mp hp with rfl | hp
          · exact .inl (e ▸ List.mem_cons_self)
          · exact .inr ⟨p, hp, e⟩
theorem addF_ord (P : Nm → Nat) : ∀ (l : List (Nat × Nm)) (F : List Nm), l.Pairwise (fun p q => p.1 < q.1) → (∀ a ∈ F, ∀ q ∈ l, P a < q.1) → F.Pairwise (fun a b => P b < P a) → (∀ x, x ∉ F → ∀ q, fnd x l = some q → P x = q.1) → (addF F l).Pairwise (fun a b => P b < P a)
  | [], F, _, _, h, _ => h
  | (p, x) :: l, F, hl, h1, h2, h3 => by
    rw [List.pairwise_cons] at hl
    show (addF (if x ∈ F then F else x :: F) l).Pairwise _
    by_cases h : x ∈ F
    · rw [if_pos h]
      refine addF_ord P l F hl.2 (fun a ha q hq => h1 a ha q (List.mem_cons_of_mem _ hq)) h2 fun y hy q hq => h3 y hy q ?_
      have : (x == y) = false := by rw [beq_eq_false_iff_ne]; rintro rfl; exact hy h
      rw [fnd, List.find?_cons, this]; exact hq
    · rw [if_neg h]
      have hP : P x = p := h3 x h (p, x) (by rw [fnd, List.find?_cons, beq_self_eq_true])
      refine addF_ord P l (x :: F) hl.2 (fun a ha q hq => ?_) (List.pairwise_cons.mpr ⟨fun b hb => ?_, h2⟩) fun y hy q hq => ?_
      · rcases List.mem_cons.mp ha with rfl | ha
        · rw [hP]; exact hl.1 q hq
        · exact h1 a ha q (List.mem_cons_of_mem _ hq)
      · rw [hP]; exact h1 b hb (p, x) List.mem_cons_self
      · rw [List.mem_cons, not_or] at hy
        have : (x == y) = false := by rw [beq_eq_false_iff_ne]; exact fun e => hy.1 e.symm
        exact h3 y hy.2 q (by rw [fnd, List.find?_cons, this]; exact hq)
theorem due_eq {N : List Nm} (nd : N.Nodup) (t : Mine.Tree) (hN : nmIn N t) {qs : List Ky} (hp : qs.Perm (N.map fun n => (whv n t, n))) (hs : qs.Pairwise (fun a b => plt a b = true)) :
    (qs.filter (fun q => decide (q.1 ≥ 0))).map (·.2) = (fr t [] []).reverse := by
  have hfr := fr_occ t [] [] 0
  have hw : ∀ n, fnd n (occ t [] 0) = (fwh n t false).map (fun k => (k, n)) := fun n => fwh_occ n t [] 0
  have hv : ∀ n, n ∈ fr t [] [] → 0 ≤ whv n t ∧ ∃ k : Nat, whv n t = k ∧ fnd n (occ t [] 0) = some (k, n) := fun n hn => by
    rw [hfr, addF_mem] at hn
    obtain ⟨p, hp, rfl⟩ := hn.resolve_left (fun q => by cases q)
    have h := hw p.2
    cases e : fwh p.2 t false with
    | none =>
      rw [e] at h
      have := List.find?_eq_none.mp h p hp
      simp at this
    | some k =>
      rw [e] at h
      have : whv p.2 t = (k : Int) := by unfold whv; rw [e]
      exact ⟨by rw [this]; exact Int.natCast_nonneg _, k, this, h⟩
  have hn : ∀ n, 0 ≤ whv n t → n ∈ fr t [] [] := fun n h => by
    cases e : fwh n t false with
    | none => unfold whv at h; rw [e] at h; cases h
    | some k =>
      have := hw n
      rw [e] at this
      have m := List.mem_of_find?_eq_some this
      rw [hfr, addF_mem]
      exact .inr ⟨_, m, rfl⟩
  let P : Nm → Nat := fun n => (whv n t).toNat
  have ord : (fr t [] []).Pairwise (fun a b => P b < P a) := by
    rw [hfr]
    refine addF_ord P _ [] (occ_rng t [] 0).1 (fun a ha => by cases ha) .nil fun x _ q hq => ?_
    have h := hw x
    rw [hq] at h
    cases e : fwh x t false with
    | none => rw [e] at h; cases h
    | some k =>
      rw [e] at h
      cases h
      show (whv x t).toNat = k
      unfold whv; rw [e]; rfl
  have ndf : (fr t [] []).Nodup := ord.imp fun h e => by rw [e] at h; exact absurd h (Nat.lt_irrefl _)
  have key : qs.filter (fun q => decide (q.1 ≥ 0)) = (fr t [] []).reverse.map fun n => (whv n t, n) := by
    refine plt_uniq ?_ (hs.filter _) ?_
    · refine (hp.filter _).trans ?_
      have nd2 : (N.map fun n => (whv n t, n)).Nodup := by
        rw [List.nodup_iff_pairwise_ne, List.pairwise_map]
        exact (List.nodup_iff_pairwise_ne.mp nd).imp fun h e => h (congrArg Prod.snd e)
      have nd3 : ((fr t [] []).reverse.map fun n => (whv n t, n)).Nodup := by
        rw [List.nodup_iff_pairwise_ne, List.pairwise_map]
        exact (List.pairwise_reverse.mpr ((List.nodup_iff_pairwise_ne.mp ndf).imp fun h => Ne.symm h)).imp fun h e => h (congrArg Prod.snd e)
      refine (List.perm_ext_iff_of_nodup (nd2.filter _) nd3).mpr fun q => ?_
      rw [List.mem_filter, List.mem_map, List.mem_map]
      constructor
      · rintro ⟨⟨n, hn1, rfl⟩, h⟩
        exact ⟨n, List.mem_reverse.mpr (hn n (of_decide_eq_true h)), rfl⟩
      · rintro ⟨n, hn1, rfl⟩
        have hn1 := List.mem_reverse.mp hn1
        refine ⟨⟨n, ?_, rfl⟩, decide_eq_true (hv n hn1).1⟩
        rw [hfr, addF_mem] at hn1
        obtain ⟨p, hp, rfl⟩ := hn1.resolve_left (fun q => by cases q)
        exact occ_nm t [] 0 hN p hp
    · rw [List.pairwise_map, List.pairwise_reverse]
      refine ord.imp_of_mem fun {a b} ha hb h => ?_
      rw [plt_iff]
      left
      have h1 := (hv a ha).1
      have h2 := (hv b hb).1
      show whv b t < whv a t
      have h : (whv b t).toNat < (whv a t).toNat := h
      omega
  rw [key, List.map_map]
  show (fr t [] []).reverse.map id = _
  rw [List.map_id]
end Mine
end

section
open PySem
set_option autoImplicit false
set_option maxRecDepth 100000
namespace Mine
open Mine.L01
noncomputable abbrev lst0 (l : List V) (f m : Int) (x3 : Option O) (N : List V) (t : V) (x6 x7 x8 : Option O) : Loc := [some (.val (.lst l)), some (.val (.int f)), some (.val (.int m)), x3, some (.val (.lst N)), some (.val t), x6, x7, x8, none, none, none]
abbrev LF (l : List V) (ρ ρ' : Loc) : Prop := ForOK G 2 fi_law (.Name "_law_k" ⟨139,12,139,18⟩) (l_law_139 2).xs l ρ .next ρ'
theorem lw_for {N : List Nm} {l NV : List V} {f m : Int} : ∀ (n : Nat) (i : Int) (x3 : Option O) (t : Mine.Tree), nmIn N t → ∃ (t' : Mine.Tree) (y3 : Option O), sz t' ≤ sz t + 2 * n ∧ nmIn N t' ∧ LF (rangeL i n) (lst0 l f m x3 NV (tv t) none none none) (lst0 l f m y3 NV (tv t') none none none)
  | 0, i, x3, t, h => ⟨t, x3, Nat.le_refl _, h, for_nil⟩
  | n + 1, i, x3, t, h => by
    obtain ⟨t', y3, h1, h3, h2⟩ := lw_for (n := n) (i + 1) (some (.val (.int i))) (.less (.num i) t) ⟨trivial, h⟩
    have : sz (.less (.num i) t) = 1 + sz t + 1 := rfl
    exact ⟨t', y3, by omega, h3, for_go (i := 3) (v := .int i) (l := rangeL (i + 1) n) (ρ' := lst0 l f m (some (.val (.int i))) NV (tv (.less (.num i) t)) none none none) (tp := []) (by kernel_rfl) (by kernel_rfl) (P := True) (by kernel_rfl) trivial h2⟩
theorem own_pick (X : List Nm) {k : Nat} (hk : k < X.length) : ∃ x, Pick (.own (X.map .str)) (Int.ofNat k) (.val (.str x)) := by
  have hl : k < X.reverse.length := by simpa using hk
  refine ⟨X.reverse[k], ?_⟩
  show (((X.map V.str).reverse[k]?).bind _) = _
  rw [← List.map_reverse, List.getElem?_map, List.getElem?_eq_getElem hl]; rfl
abbrev FF (l : List V) (ρ ρ' : Loc) : Prop := ForOK G 2 fi_law (.Name "_law_k" ⟨146,8,146,14⟩) (l_law_146 2).xs l ρ .next ρ'
theorem lw_chk {l NV : List V} {f m : Int} {t : V} {x6 : Option O} (X : List Nm) : ∀ (n k : Nat) (x3 : Option O), k + n = X.length → ∃ y3, FF (rangeL (Int.ofNat k) n) (lst0 l f m x3 NV t x6 (some (.own (X.map .str))) (some (.own (X.map .str)))) (lst0 l f m y3 NV t x6 (some (.own (X.map .str))) (some (.own (X.map .str))))
  | 0, k, x3, h => ⟨x3, for_nil⟩
  | n + 1, k, x3, h => by
    obtain ⟨x, hx⟩ := own_pick X (k := k) (by omega)
    obtain ⟨y3, h2⟩ := lw_chk X n (k + 1) (some (.val (.int (Int.ofNat k)))) (by omega)
    exact ⟨y3, for_go (i := 3) (v := .int (Int.ofNat k)) (l := rangeL (Int.ofNat (k + 1)) n) (ρ' := lst0 l f m (some (.val (.int (Int.ofNat k)))) NV t x6 (some (.own (X.map .str))) (some (.own (X.map .str)))) (tp := [.r (.val (.str x)), .r (.val (.str x)), .r (.val (.str x))]) (by kernel_rfl) (by kernel_rfl) (P := (V.str x = V.str x ∧ 0 ≤ 1900) ∧ Pick (.own (X.map .str)) (Int.ofNat k) (.val (.str x)) ∧ Pick (.own (X.map .str)) (Int.ofNat k) (.val (.str x)) ∧ Pick (.own (X.map .str)) (Int.ofNat k) (.val (.str x)) ∧ True) (by kernel_rfl) ⟨⟨rfl, by decide⟩, hx, hx, hx, trivial⟩ h2⟩
theorem lw_rows {l NV : List V} {f m : Int} {y3 : Option O} (t : Mine.Tree) (hz : 4 * sz t < room) : ∀ nl : List Nm, CompL G 2 (fi_law.inner s_law_141_23 "_law_name" 11) (e_law_141_23 2).x 11 ((shr (lst0 l f m y3 NV (tv t) none none none)).set 11 none) (nl.map .str) ((nl.map fun n => (whv n t, n)).map pv)
  | [] => comp_nil
  | n :: nl => comp_go (o := .val (pv (whv n t, n))) (tp := [.r (.val (.int (whv n t)))]) (by kernel_rfl) (P := CallOK G 2 80 [tv t, .str n] (.val (.int (whv n t))) ∧ True) (by kernel_rfl) ⟨ok_where (d := 0) t hz, trivial⟩ (lw_rows t hz nl)
theorem lw_due {l NV : List V} {f m : Int} {y3 x6 : Option O} {t : V} : ∀ qs : List Ky, CompI G 2 (fi_law.inner s_law_142_15 "_law_row" 11) [(t_law_142_15 2).x] (e_law_142_15 2).x 11 ((shr (lst0 l f m y3 NV t x6 none none)).set 11 none) (qs.map pv) (((qs.filter (fun q => decide (q.1 ≥ 0))).map (·.2)).map .str)
  | [] => rfl
  | q :: qs => by
    have ih := lw_due (l := l) (NV := NV) (f := f) (m := m) (y3 := y3) (x6 := x6) (t := t) qs
    have e : out ((t_law_142_15 2).tr ⟨((shr (lst0 l f m y3 NV t x6 none none)).set 11 none).set 11 (some (.val (pv q))), [], []⟩) = some (decide (q.1 ≥ 0), ((shr (lst0 l f m y3 NV t x6 none none)).set 11 none).set 11 (some (.val (pv q))), []) := by kernel_rfl
    cases h : decide (q.1 ≥ 0) with
    | true =>
      rw [List.filter_cons, h]
      rw [h] at e
      exact comp_keep (o := .val (.str q.2)) e (P' := True) (by kernel_rfl) trivial (tp := []) (by kernel_rfl) (P := True) (by kernel_rfl) trivial ih
    | false =>
      rw [List.filter_cons, h]
      rw [h] at e
      exact comp_skip e (P' := True) (by kernel_rfl) trivial ih
theorem lw_names4 (ns : List Int) (f : Int) {m0 m1 m2 m3 : Nm} (h0 : CallOK G 2 54 [.int (f - f % 26 + (f + 7 * 0) % 26)] (.val (.str m0))) (h1 : CallOK G 2 54 [.int (f - f % 26 + (f + 7 * 1) % 26)] (.val (.str m1))) (h2 : CallOK G 2 54 [.int (f - f % 26 + (f + 7 * 2) % 26)] (.val (.str m2))) (h3 : CallOK G 2 54 [.int (f - f % 26 + (f + 7 * 3) % 26)] (.val (.str m3))) : CompL G 2 (fi_law.inner s_law_134_17 "_law_k" 11) (e_law_134_17 2).x 11 [some (.val (.lst (ns.map .int))), some (.val (.int f)), some (.val (.int 4)), none, none, none, none, none, none, none, none, none] [.int 0, .int 1, .int 2, .int 3] [.str m0, .str m1, .str m2, .str m3] :=
  (comp_go (o := .val (.str m0)) (tp := [.r (.val (.str m0))]) (by kernel_rfl) (P := CallOK G 2 54 [.int (f - f % 26 + (f + 7 * 0) % 26)] (.val (.str m0)) ∧ ((0 : Int) < 26) ∧ ((7 : Int).natAbs < 2 ^ 62 ∨ (0 : Int).natAbs < 2 ^ 62) ∧ ((0 : Int) < 26) ∧ True) (by kernel_rfl) ⟨h0, by decide, .inl (by decide), by decide, trivial⟩ (comp_go (o := .val (.str m1)) (tp := [.r (.val (.str m1))]) (by kernel_rfl) (P := CallOK G 2 54 [.int (f - f % 26 + (f + 7 * 1) % 26)] (.val (.str m1)) ∧ ((0 : Int) < 26) ∧ ((7 : Int).natAbs < 2 ^ 62 ∨ (1 : Int).natAbs < 2 ^ 62) ∧ ((0 : Int) < 26) ∧ True) (by kernel_rfl) ⟨h1, by decide, .inl (by decide), by decide, trivial⟩ (comp_go (o := .val (.str m2)) (tp := [.r (.val (.str m2))]) (by kernel_rfl) (P := CallOK G 2 54 [.int (f - f % 26 + (f + 7 * 2) % 26)] (.val (.str m2)) ∧ ((0 : Int) < 26) ∧ ((7 : Int).natAbs < 2 ^ 62 ∨ (2 : Int).natAbs < 2 ^ 62) ∧ ((0 : Int) < 26) ∧ True) (by kernel_rfl) ⟨h2, by decide, .inl (by decide), by decide, trivial⟩ (comp_go (o := .val (.str m3)) (tp := [.r (.val (.str m3))]) (by kernel_rfl) (P := CallOK G 2 54 [.int (f - f % 26 + (f + 7 * 3) % 26)] (.val (.str m3)) ∧ ((0 : Int) < 26) ∧ ((7 : Int).natAbs < 2 ^ 62 ∨ (3 : Int).natAbs < 2 ^ 62) ∧ ((0 : Int) < 26) ∧ True) (by kernel_rfl) ⟨h3, by decide, .inl (by decide), by decide, trivial⟩ comp_nil))))
theorem lw_names12 (ns : List Int) (f : Int) {m0 m1 m2 m3 m4 m5 m6 m7 m8 m9 m10 m11 : Nm} (h0 : CallOK G 2 54 [.int (f - f % 26 + (f + 7 * 0) % 26)] (.val (.str m0))) (h1 : CallOK G 2 54 [.int (f - f % 26 + (f + 7 * 1) % 26)] (.val (.str m1))) (h2 : CallOK G 2 54 [.int (f - f % 26 + (f + 7 * 2) % 26)] (.val (.str m2))) (h3 : CallOK G 2 54 [.int (f - f % 26 + (f + 7 * 3) % 26)] (.val (.str m3))) (h4 : CallOK G 2 54 [.int (f - f % 26 + (f + 7 * 4) % 26)] (.val (.str m4))) (h5 : CallOK G 2 54 [.int (f - f % 26 + (f + 7 * 5) % 26)] (.val (.str m5))) (h6 : CallOK G 2 54 [.int (f - f % 26 + (f + 7 * 6) % 26)] (.val (.str m6))) (h7 : CallOK G 2 54 [.int (f - f % 26 + (f + 7 * 7) % 26)] (.val (.str m7))) (h8 : CallOK G 2 54 [.int (f - f % 26 + (f + 7 * 8) % 26)] (.val (.str m8))) (h9 : CallOK G 2 54 [.int (f - f % 26 + (f + 7 * 9) % 26)] (.val (.str m9))) (h10 : CallOK G 2 54 [.int (f - f % 26 + (f + 7 * 10) % 26)] (.val (.str m10))) (h11 : CallOK G 2 54 [.int (f - f % 26 + (f + 7 * 11) % 26)] (.val (.str m11))) : CompL G 2 (fi_law.inner s_law_134_17 "_law_k" 11) (e_law_134_17 2).x 11 [some (.val (.lst (ns.map .int))), some (.val (.int f)), some (.val (.int 12)), none, none, none, none, none, none, none, none, none] [.int 0, .int 1, .int 2, .int 3, .int 4, .int 5, .int 6, .int 7, .int 8, .int 9, .int 10, .int 11] [.str m0, .str m1, .str m2, .str m3, .str m4, .str m5, .str m6, .str m7, .str m8, .str m9, .str m10, .str m11] :=
  (comp_go (o := .val (.str m0)) (tp := [.r (.val (.str m0))]) (by kernel_rfl) (P := CallOK G 2 54 [.int (f - f % 26 + (f + 7 * 0) % 26)] (.val (.str m0)) ∧ ((0 : Int) < 26) ∧ ((7 : Int).natAbs < 2 ^ 62 ∨ (0 : Int).natAbs < 2 ^ 62) ∧ ((0 : Int) < 26) ∧ True) (by kernel_rfl) ⟨h0, by decide, .inl (by decide), by decide, trivial⟩ (comp_go (o := .val (.str m1)) (tp := [.r (.val (.str m1))]) (by kernel_rfl) (P := CallOK G 2 54 [.int (f - f % 26 + (f + 7 * 1) % 26)] (.val (.str m1)) ∧ ((0 : Int) < 26) ∧ ((7 : Int).natAbs < 2 ^ 62 ∨ (1 : Int).natAbs < 2 ^ 62) ∧ ((0 : Int) < 26) ∧ True) (by kernel_rfl) ⟨h1, by decide, .inl (by decide), by decide, trivial⟩ (comp_go (o := .val (.str m2)) (tp := [.r (.val (.str m2))]) (by kernel_rfl) (P := CallOK G 2 54 [.int (f - f % 26 + (f + 7 * 2) % 26)] (.val (.str m2)) ∧ ((0 : Int) < 26) ∧ ((7 : Int).natAbs < 2 ^ 62 ∨ (2 : Int).natAbs < 2 ^ 62) ∧ ((0 : Int) < 26) ∧ True) (by kernel_rfl) ⟨h2, by decide, .inl (by decide), by decide, trivial⟩ (comp_go (o := .val (.str m3)) (tp := [.r (.val (.str m3))]) (by kernel_rfl) (P := CallOK G 2 54 [.int (f - f % 26 + (f + 7 * 3) % 26)] (.val (.str m3)) ∧ ((0 : Int) < 26) ∧ ((7 : Int).natAbs < 2 ^ 62 ∨ (3 : Int).natAbs < 2 ^ 62) ∧ ((0 : Int) < 26) ∧ True) (by kernel_rfl) ⟨h3, by decide, .inl (by decide), by decide, trivial⟩ (comp_go (o := .val (.str m4)) (tp := [.r (.val (.str m4))]) (by kernel_rfl) (P := CallOK G 2 54 [.int (f - f % 26 + (f + 7 * 4) % 26)] (.val (.str m4)) ∧ ((0 : Int) < 26) ∧ ((7 : Int).natAbs < 2 ^ 62 ∨ (4 : Int).natAbs < 2 ^ 62) ∧ ((0 : Int) < 26) ∧ True) (by kernel_rfl) ⟨h4, by decide, .inl (by decide), by decide, trivial⟩ (comp_go (o := .val (.str m5)) (tp := [.r (.val (.str m5))]) (by kernel_rfl) (P := CallOK G 2 54 [.int (f - f % 26 + (f + 7 * 5) % 26)] (.val (.str m5)) ∧ ((0 : Int) < 26) ∧ ((7 : Int).natAbs < 2 ^ 62 ∨ (5 : Int).natAbs < 2 ^ 62) ∧ ((0 : Int) < 26) ∧ True) (by kernel_rfl) ⟨h5, by decide, .inl (by decide), by decide, trivial⟩ (comp_go (o := .val (.str m6)) (tp := [.r (.val (.str m6))]) (by kernel_rfl) (P := CallOK G 2 54 [.int (f - f % 26 + (f + 7 * 6) % 26)] (.val (.str m6)) ∧ ((0 : Int) < 26) ∧ ((7 : Int).natAbs < 2 ^ 62 ∨ (6 : Int).natAbs < 2 ^ 62) ∧ ((0 : Int) < 26) ∧ True) (by kernel_rfl) ⟨h6, by decide, .inl (by decide), by decide, trivial⟩ (comp_go (o := .val (.str m7)) (tp := [.r (.val (.str m7))]) (by kernel_rfl) (P := CallOK G 2 54 [.int (f - f % 26 + (f + 7 * 7) % 26)] (.val (.str m7)) ∧ ((0 : Int) < 26) ∧ ((7 : Int).natAbs < 2 ^ 62 ∨ (7 : Int).natAbs < 2 ^ 62) ∧ ((0 : Int) < 26) ∧ True) (by kernel_rfl) ⟨h7, by decide, .inl (by decide), by decide, trivial⟩ (comp_go (o := .val (.str m8)) (tp := [.r (.val (.str m8))]) (by kernel_rfl) (P := CallOK G 2 54 [.int (f - f % 26 + (f + 7 * 8) % 26)] (.val (.str m8)) ∧ ((0 : Int) < 26) ∧ ((7 : Int).natAbs < 2 ^ 62 ∨ (8 : Int).natAbs < 2 ^ 62) ∧ ((0 : Int) < 26) ∧ True) (by kernel_rfl) ⟨h8, by decide, .inl (by decide), by decide, trivial⟩ (comp_go (o := .val (.str m9)) (tp := [.r (.val (.str m9))]) (by kernel_rfl) (P := CallOK G 2 54 [.int (f - f % 26 + (f + 7 * 9) % 26)] (.val (.str m9)) ∧ ((0 : Int) < 26) ∧ ((7 : Int).natAbs < 2 ^ 62 ∨ (9 : Int).natAbs < 2 ^ 62) ∧ ((0 : Int) < 26) ∧ True) (by kernel_rfl) ⟨h9, by decide, .inl (by decide), by decide, trivial⟩ (comp_go (o := .val (.str m10)) (tp := [.r (.val (.str m10))]) (by kernel_rfl) (P := CallOK G 2 54 [.int (f - f % 26 + (f + 7 * 10) % 26)] (.val (.str m10)) ∧ ((0 : Int) < 26) ∧ ((7 : Int).natAbs < 2 ^ 62 ∨ (10 : Int).natAbs < 2 ^ 62) ∧ ((0 : Int) < 26) ∧ True) (by kernel_rfl) ⟨h10, by decide, .inl (by decide), by decide, trivial⟩ (comp_go (o := .val (.str m11)) (tp := [.r (.val (.str m11))]) (by kernel_rfl) (P := CallOK G 2 54 [.int (f - f % 26 + (f + 7 * 11) % 26)] (.val (.str m11)) ∧ ((0 : Int) < 26) ∧ ((7 : Int).natAbs < 2 ^ 62 ∨ (11 : Int).natAbs < 2 ^ 62) ∧ ((0 : Int) < 26) ∧ True) (by kernel_rfl) ⟨h11, by decide, .inl (by decide), by decide, trivial⟩ comp_nil))))))))))))
theorem lw_4kl (ns : List Int) {f s : Int} {nms rows qs due F : List V} {t : Mine.Tree} {y4 : Option O} {t2 : Mine.Tree} {y3 : Option O} {m0 m1 m2 m3 : Nm} (hf : CallOK G 2 42 [.lst (ns.map .int), .int 0] (.val (.int f))) (hm : Pick (.val (.lst [.int 4, .int 12])) (f / 1000 % 2) (.val (.int 4))) (hn : CompL G 2 (fi_law.inner s_law_134_17 "_law_k" 11) (e_law_134_17 2).x 11 [some (.val (.lst (ns.map .int))), some (.val (.int f)), some (.val (.int 4)), none, none, none, none, none, none, none, none, none] [.int 0, .int 1, .int 2, .int 3] [.str m0, .str m1, .str m2, .str m3]) (hf3 : (f / 26 % 3 == 1) = true) (hk : CallOK G 2 47 [.int (f / 78), .int 4] (.own nms.reverse)) (ht : CallOK G 2 68 [.lst (cut (ns.map V.int) (some 1) (some 61)).reverse.reverse, .lst nms.reverse.reverse] (.val (tv t))) (hg : (f / 2000 % 8 == 1) = true) (hl : LF (rangeL 0 250) (lst0 (ns.map .int) f 4 none nms.reverse.reverse (tv t) none none none) (lst0 (ns.map .int) f 4 y3 nms.reverse.reverse (tv t2) none none none)) (hr : CompT G 2 (fi_law.inner s_law_141_23 "_law_name" 11) [] (e_law_141_23 2).x 11 nms.reverse.reverse (lst0 (ns.map .int) f 4 y3 nms.reverse.reverse (tv t2) none none none) rows) (hs : SortP (.own rows.reverse) (.own qs)) (hd : CompT G 2 (fi_law.inner s_law_142_15 "_law_row" 11) [(t_law_142_15 2).x] (e_law_142_15 2).x 11 qs.reverse (lst0 (ns.map .int) f 4 y3 nms.reverse.reverse (tv t2) (some (.val (.lst qs.reverse))) none none) due) (hfr : CallOK G 2 35 [tv t2] (.own F)) (hle : V.int (F.length : Int) = V.int (due.reverse.length : Int)) (hl2 : (due.reverse.length : Int).natAbs ≤ 1000000) (hc : FF (rangeL 0 ((due.reverse.length : Int) - 0).toNat) (lst0 (ns.map .int) f 4 y3 nms.reverse.reverse (tv t2) (some (.val (.lst qs.reverse))) (some (.own due.reverse)) (some (.own F))) (lst0 (ns.map .int) f 4 y4 nms.reverse.reverse (tv t2) (some (.val (.lst qs.reverse))) (some (.own due.reverse)) (some (.own F)))) (hno : CallOK G 2 28 [tv t2] (.val (.int s))) (hri : CallOK G 2 87 [tv t2] (.val (.int s))) : CallOK G 3 92 [.lst (ns.map .int)] (.val (.bool true)) :=
  call_go (n := 11) (tp := [.r (.val (.int f)), .r (.val (.int 4)), .vs [.str m0, .str m1, .str m2, .str m3], .b true, .r (.own nms.reverse), .r (.val (tv t)), .b true, .l .next (lst0 (ns.map .int) f 4 y3 nms.reverse.reverse (tv t2) none none none), .vs rows, .r (.own qs), .vs due, .r (.own F), .l .next (lst0 (ns.map .int) f 4 y4 nms.reverse.reverse (tv t2) (some (.val (.lst qs.reverse))) (some (.own due.reverse)) (some (.own F))), .r (.val (.int s)), .r (.val (.int s))]) (b_law 2) rfl (b_law_x 2) rfl (by kernel_rfl) (P := (V.int s = V.int s ∧ 0 ≤ 1900) ∧ (CallOK G 2 87 [tv t2] (.val (.int s))) ∧ (CallOK G 2 28 [tv t2] (.val (.int s))) ∧ (FF (rangeL 0 ((due.reverse.length : Int) - 0).toNat) (lst0 (ns.map .int) f 4 y3 nms.reverse.reverse (tv t2) (some (.val (.lst qs.reverse))) (some (.own due.reverse)) (some (.own F))) (lst0 (ns.map .int) f 4 y4 nms.reverse.reverse (tv t2) (some (.val (.lst qs.reverse))) (some (.own due.reverse)) (some (.own F)))) ∧ ((due.reverse.length : Int).natAbs ≤ 1000000) ∧ (V.int (F.length : Int) = V.int (due.reverse.length : Int) ∧ 0 ≤ 1900) ∧ (CallOK G 2 35 [tv t2] (.own F)) ∧ (CompT G 2 (fi_law.inner s_law_142_15 "_law_row" 11) [(t_law_142_15 2).x] (e_law_142_15 2).x 11 qs.reverse (lst0 (ns.map .int) f 4 y3 nms.reverse.reverse (tv t2) (some (.val (.lst qs.reverse))) none none) due) ∧ (SortP (.own rows.reverse) (.own qs)) ∧ (CompT G 2 (fi_law.inner s_law_141_23 "_law_name" 11) [] (e_law_141_23 2).x 11 nms.reverse.reverse (lst0 (ns.map .int) f 4 y3 nms.reverse.reverse (tv t2) none none none) rows) ∧ (LF (rangeL 0 250) (lst0 (ns.map .int) f 4 none nms.reverse.reverse (tv t) none none none) (lst0 (ns.map .int) f 4 y3 nms.reverse.reverse (tv t2) none none none)) ∧ ((250 : Int).natAbs ≤ 1000000) ∧ ((f / 2000 % 8 == 1) = true) ∧ ((0 : Int) < 8) ∧ ((0 : Int) < 2000 ∧ (2000 : Int) < 2 ^ 29) ∧ (CallOK G 2 68 [.lst (cut (ns.map V.int) (some 1) (some 61)).reverse.reverse, .lst nms.reverse.reverse] (.val (tv t))) ∧ ((0 : Int) ≤ 1 ∧ (1 : Int) ≤ 1000000) ∧ ((0 : Int) ≤ 61 ∧ (61 : Int) ≤ 1000000) ∧ (CallOK G 2 47 [.int (f / 78), .int 4] (.own nms.reverse)) ∧ ((0 : Int) < 78 ∧ (78 : Int) < 2 ^ 29) ∧ ((f / 26 % 3 == 1) = true) ∧ ((0 : Int) < 3) ∧ ((0 : Int) < 26 ∧ (26 : Int) < 2 ^ 29) ∧ ((CompL G 2 (fi_law.inner s_law_134_17 "_law_k" 11) (e_law_134_17 2).x 11 [some (.val (.lst (ns.map .int))), some (.val (.int f)), some (.val (.int 4)), none, none, none, none, none, none, none, none, none] [.int 0, .int 1, .int 2, .int 3] [.str m0, .str m1, .str m2, .str m3]) ∧ 4 ≤ 1000000) ∧ (4 ≤ 1000000) ∧ (Pick (.val (.lst [.int 4, .int 12])) (f / 1000 % 2) (.val (.int 4))) ∧ ((0 : Int) < 2) ∧ ((0 : Int) < 1000 ∧ (1000 : Int) < 2 ^ 29) ∧ (CallOK G 2 42 [.lst (ns.map .int), .int 0] (.val (.int f))) ∧ True) (by kernel_rfl) ⟨⟨rfl, by decide⟩, hri, hno, hc, hl2, ⟨hle, by decide⟩, hfr, hd, hs, hr, hl, by decide, hg, by decide, by decide, ht, by decide, by decide, hk, by decide, hf3, by decide, by decide, ⟨hn, by decide⟩, by decide, hm, by decide, by decide, hf, trivial⟩
theorem lw_4ks (ns : List Int) {f s : Int} {nms rows qs due F : List V} {t : Mine.Tree} {y4 : Option O} {m0 m1 m2 m3 : Nm} (hf : CallOK G 2 42 [.lst (ns.map .int), .int 0] (.val (.int f))) (hm : Pick (.val (.lst [.int 4, .int 12])) (f / 1000 % 2) (.val (.int 4))) (hn : CompL G 2 (fi_law.inner s_law_134_17 "_law_k" 11) (e_law_134_17 2).x 11 [some (.val (.lst (ns.map .int))), some (.val (.int f)), some (.val (.int 4)), none, none, none, none, none, none, none, none, none] [.int 0, .int 1, .int 2, .int 3] [.str m0, .str m1, .str m2, .str m3]) (hf3 : (f / 26 % 3 == 1) = true) (hk : CallOK G 2 47 [.int (f / 78), .int 4] (.own nms.reverse)) (ht : CallOK G 2 68 [.lst (cut (ns.map V.int) (some 1) (some 61)).reverse.reverse, .lst nms.reverse.reverse] (.val (tv t))) (hg : (f / 2000 % 8 == 1) = false) (hr : CompT G 2 (fi_law.inner s_law_141_23 "_law_name" 11) [] (e_law_141_23 2).x 11 nms.reverse.reverse (lst0 (ns.map .int) f 4 none nms.reverse.reverse (tv t) none none none) rows) (hs : SortP (.own rows.reverse) (.own qs)) (hd : CompT G 2 (fi_law.inner s_law_142_15 "_law_row" 11) [(t_law_142_15 2).x] (e_law_142_15 2).x 11 qs.reverse (lst0 (ns.map .int) f 4 none nms.reverse.reverse (tv t) (some (.val (.lst qs.reverse))) none none) due) (hfr : CallOK G 2 35 [tv t] (.own F)) (hle : V.int (F.length : Int) = V.int (due.reverse.length : Int)) (hl2 : (due.reverse.length : Int).natAbs ≤ 1000000) (hc : FF (rangeL 0 ((due.reverse.length : Int) - 0).toNat) (lst0 (ns.map .int) f 4 none nms.reverse.reverse (tv t) (some (.val (.lst qs.reverse))) (some (.own due.reverse)) (some (.own F))) (lst0 (ns.map .int) f 4 y4 nms.reverse.reverse (tv t) (some (.val (.lst qs.reverse))) (some (.own due.reverse)) (some (.own F)))) (hno : CallOK G 2 28 [tv t] (.val (.int s))) (hri : CallOK G 2 87 [tv t] (.val (.int s))) : CallOK G 3 92 [.lst (ns.map .int)] (.val (.bool true)) :=
  call_go (n := 11) (tp := [.r (.val (.int f)), .r (.val (.int 4)), .vs [.str m0, .str m1, .str m2, .str m3], .b true, .r (.own nms.reverse), .r (.val (tv t)), .b false, .vs rows, .r (.own qs), .vs due, .r (.own F), .l .next (lst0 (ns.map .int) f 4 y4 nms.reverse.reverse (tv t) (some (.val (.lst qs.reverse))) (some (.own due.reverse)) (some (.own F))), .r (.val (.int s)), .r (.val (.int s))]) (b_law 2) rfl (b_law_x 2) rfl (by kernel_rfl) (P := (V.int s = V.int s ∧ 0 ≤ 1900) ∧ (CallOK G 2 87 [tv t] (.val (.int s))) ∧ (CallOK G 2 28 [tv t] (.val (.int s))) ∧ (FF (rangeL 0 ((due.reverse.length : Int) - 0).toNat) (lst0 (ns.map .int) f 4 none nms.reverse.reverse (tv t) (some (.val (.lst qs.reverse))) (some (.own due.reverse)) (some (.own F))) (lst0 (ns.map .int) f 4 y4 nms.reverse.reverse (tv t) (some (.val (.lst qs.reverse))) (some (.own due.reverse)) (some (.own F)))) ∧ ((due.reverse.length : Int).natAbs ≤ 1000000) ∧ (V.int (F.length : Int) = V.int (due.reverse.length : Int) ∧ 0 ≤ 1900) ∧ (CallOK G 2 35 [tv t] (.own F)) ∧ (CompT G 2 (fi_law.inner s_law_142_15 "_law_row" 11) [(t_law_142_15 2).x] (e_law_142_15 2).x 11 qs.reverse (lst0 (ns.map .int) f 4 none nms.reverse.reverse (tv t) (some (.val (.lst qs.reverse))) none none) due) ∧ (SortP (.own rows.reverse) (.own qs)) ∧ (CompT G 2 (fi_law.inner s_law_141_23 "_law_name" 11) [] (e_law_141_23 2).x 11 nms.reverse.reverse (lst0 (ns.map .int) f 4 none nms.reverse.reverse (tv t) none none none) rows) ∧ ((f / 2000 % 8 == 1) = false) ∧ ((0 : Int) < 8) ∧ ((0 : Int) < 2000 ∧ (2000 : Int) < 2 ^ 29) ∧ (CallOK G 2 68 [.lst (cut (ns.map V.int) (some 1) (some 61)).reverse.reverse, .lst nms.reverse.reverse] (.val (tv t))) ∧ ((0 : Int) ≤ 1 ∧ (1 : Int) ≤ 1000000) ∧ ((0 : Int) ≤ 61 ∧ (61 : Int) ≤ 1000000) ∧ (CallOK G 2 47 [.int (f / 78), .int 4] (.own nms.reverse)) ∧ ((0 : Int) < 78 ∧ (78 : Int) < 2 ^ 29) ∧ ((f / 26 % 3 == 1) = true) ∧ ((0 : Int) < 3) ∧ ((0 : Int) < 26 ∧ (26 : Int) < 2 ^ 29) ∧ ((CompL G 2 (fi_law.inner s_law_134_17 "_law_k" 11) (e_law_134_17 2).x 11 [some (.val (.lst (ns.map .int))), some (.val (.int f)), some (.val (.int 4)), none, none, none, none, none, none, none, none, none] [.int 0, .int 1, .int 2, .int 3] [.str m0, .str m1, .str m2, .str m3]) ∧ 4 ≤ 1000000) ∧ (4 ≤ 1000000) ∧ (Pick (.val (.lst [.int 4, .int 12])) (f / 1000 % 2) (.val (.int 4))) ∧ ((0 : Int) < 2) ∧ ((0 : Int) < 1000 ∧ (1000 : Int) < 2 ^ 29) ∧ (CallOK G 2 42 [.lst (ns.map .int), .int 0] (.val (.int f))) ∧ True) (by kernel_rfl) ⟨⟨rfl, by decide⟩, hri, hno, hc, hl2, ⟨hle, by decide⟩, hfr, hd, hs, hr, hg, by decide, by decide, ht, by decide, by decide, hk, by decide, hf3, by decide, by decide, ⟨hn, by decide⟩, by decide, hm, by decide, by decide, hf, trivial⟩
theorem lw_4nl (ns : List Int) {f s : Int} {nms rows qs due F : List V} {t : Mine.Tree} {y4 : Option O} {t2 : Mine.Tree} {y3 : Option O} (hf : CallOK G 2 42 [.lst (ns.map .int), .int 0] (.val (.int f))) (hm : Pick (.val (.lst [.int 4, .int 12])) (f / 1000 % 2) (.val (.int 4))) (hn : CompL G 2 (fi_law.inner s_law_134_17 "_law_k" 11) (e_law_134_17 2).x 11 [some (.val (.lst (ns.map .int))), some (.val (.int f)), some (.val (.int 4)), none, none, none, none, none, none, none, none, none] [.int 0, .int 1, .int 2, .int 3] nms) (hf3 : (f / 26 % 3 == 1) = false) (ht : CallOK G 2 68 [.lst (cut (ns.map V.int) (some 1) (some 61)).reverse.reverse, .lst nms.reverse.reverse] (.val (tv t))) (hg : (f / 2000 % 8 == 1) = true) (hl : LF (rangeL 0 250) (lst0 (ns.map .int) f 4 none nms.reverse.reverse (tv t) none none none) (lst0 (ns.map .int) f 4 y3 nms.reverse.reverse (tv t2) none none none)) (hr : CompT G 2 (fi_law.inner s_law_141_23 "_law_name" 11) [] (e_law_141_23 2).x 11 nms.reverse.reverse (lst0 (ns.map .int) f 4 y3 nms.reverse.reverse (tv t2) none none none) rows) (hs : SortP (.own rows.reverse) (.own qs)) (hd : CompT G 2 (fi_law.inner s_law_142_15 "_law_row" 11) [(t_law_142_15 2).x] (e_law_142_15 2).x 11 qs.reverse (lst0 (ns.map .int) f 4 y3 nms.reverse.reverse (tv t2) (some (.val (.lst qs.reverse))) none none) due) (hfr : CallOK G 2 35 [tv t2] (.own F)) (hle : V.int (F.length : Int) = V.int (due.reverse.length : Int)) (hl2 : (due.reverse.length : Int).natAbs ≤ 1000000) (hc : FF (rangeL 0 ((due.reverse.length : Int) - 0).toNat) (lst0 (ns.map .int) f 4 y3 nms.reverse.reverse (tv t2) (some (.val (.lst qs.reverse))) (some (.own due.reverse)) (some (.own F))) (lst0 (ns.map .int) f 4 y4 nms.reverse.reverse (tv t2) (some (.val (.lst qs.reverse))) (some (.own due.reverse)) (some (.own F)))) (hno : CallOK G 2 28 [tv t2] (.val (.int s))) (hri : CallOK G 2 87 [tv t2] (.val (.int s))) : CallOK G 3 92 [.lst (ns.map .int)] (.val (.bool true)) :=
  call_go (n := 11) (tp := [.r (.val (.int f)), .r (.val (.int 4)), .vs nms, .b false, .r (.val (tv t)), .b true, .l .next (lst0 (ns.map .int) f 4 y3 nms.reverse.reverse (tv t2) none none none), .vs rows, .r (.own qs), .vs due, .r (.own F), .l .next (lst0 (ns.map .int) f 4 y4 nms.reverse.reverse (tv t2) (some (.val (.lst qs.reverse))) (some (.own due.reverse)) (some (.own F))), .r (.val (.int s)), .r (.val (.int s))]) (b_law 2) rfl (b_law_x 2) rfl (by kernel_rfl) (P := (V.int s = V.int s ∧ 0 ≤ 1900) ∧ (CallOK G 2 87 [tv t2] (.val (.int s))) ∧ (CallOK G 2 28 [tv t2] (.val (.int s))) ∧ (FF (rangeL 0 ((due.reverse.length : Int) - 0).toNat) (lst0 (ns.map .int) f 4 y3 nms.reverse.reverse (tv t2) (some (.val (.lst qs.reverse))) (some (.own due.reverse)) (some (.own F))) (lst0 (ns.map .int) f 4 y4 nms.reverse.reverse (tv t2) (some (.val (.lst qs.reverse))) (some (.own due.reverse)) (some (.own F)))) ∧ ((due.reverse.length : Int).natAbs ≤ 1000000) ∧ (V.int (F.length : Int) = V.int (due.reverse.length : Int) ∧ 0 ≤ 1900) ∧ (CallOK G 2 35 [tv t2] (.own F)) ∧ (CompT G 2 (fi_law.inner s_law_142_15 "_law_row" 11) [(t_law_142_15 2).x] (e_law_142_15 2).x 11 qs.reverse (lst0 (ns.map .int) f 4 y3 nms.reverse.reverse (tv t2) (some (.val (.lst qs.reverse))) none none) due) ∧ (SortP (.own rows.reverse) (.own qs)) ∧ (CompT G 2 (fi_law.inner s_law_141_23 "_law_name" 11) [] (e_law_141_23 2).x 11 nms.reverse.reverse (lst0 (ns.map .int) f 4 y3 nms.reverse.reverse (tv t2) none none none) rows) ∧ (LF (rangeL 0 250) (lst0 (ns.map .int) f 4 none nms.reverse.reverse (tv t) none none none) (lst0 (ns.map .int) f 4 y3 nms.reverse.reverse (tv t2) none none none)) ∧ ((250 : Int).natAbs ≤ 1000000) ∧ ((f / 2000 % 8 == 1) = true) ∧ ((0 : Int) < 8) ∧ ((0 : Int) < 2000 ∧ (2000 : Int) < 2 ^ 29) ∧ (CallOK G 2 68 [.lst (cut (ns.map V.int) (some 1) (some 61)).reverse.reverse, .lst nms.reverse.reverse] (.val (tv t))) ∧ ((0 : Int) ≤ 1 ∧ (1 : Int) ≤ 1000000) ∧ ((0 : Int) ≤ 61 ∧ (61 : Int) ≤ 1000000) ∧ ((f / 26 % 3 == 1) = false) ∧ ((0 : Int) < 3) ∧ ((0 : Int) < 26 ∧ (26 : Int) < 2 ^ 29) ∧ ((CompL G 2 (fi_law.inner s_law_134_17 "_law_k" 11) (e_law_134_17 2).x 11 [some (.val (.lst (ns.map .int))), some (.val (.int f)), some (.val (.int 4)), none, none, none, none, none, none, none, none, none] [.int 0, .int 1, .int 2, .int 3] nms) ∧ 4 ≤ 1000000) ∧ (4 ≤ 1000000) ∧ (Pick (.val (.lst [.int 4, .int 12])) (f / 1000 % 2) (.val (.int 4))) ∧ ((0 : Int) < 2) ∧ ((0 : Int) < 1000 ∧ (1000 : Int) < 2 ^ 29) ∧ (CallOK G 2 42 [.lst (ns.map .int), .int 0] (.val (.int f))) ∧ True) (by kernel_rfl) ⟨⟨rfl, by decide⟩, hri, hno, hc, hl2, ⟨hle, by decide⟩, hfr, hd, hs, hr, hl, by decide, hg, by decide, by decide, ht, by decide, by decide, hf3, by decide, by decide, ⟨hn, by decide⟩, by decide, hm, by decide, by decide, hf, trivial⟩
theorem lw_4ns (ns : List Int) {f s : Int} {nms rows qs due F : List V} {t : Mine.Tree} {y4 : Option O} (hf : CallOK G 2 42 [.lst (ns.map .int), .int 0] (.val (.int f))) (hm : Pick (.val (.lst [.int 4, .int 12])) (f / 1000 % 2) (.val (.int 4))) (hn : CompL G 2 (fi_law.inner s_law_134_17 "_law_k" 11) (e_law_134_17 2).x 11 [some (.val (.lst (ns.map .int))), some (.val (.int f)), some (.val (.int 4)), none, none, none, none, none, none, none, none, none] [.int 0, .int 1, .int 2, .int 3] nms) (hf3 : (f / 26 % 3 == 1) = false) (ht : CallOK G 2 68 [.lst (cut (ns.map V.int) (some 1) (some 61)).reverse.reverse, .lst nms.reverse.reverse] (.val (tv t))) (hg : (f / 2000 % 8 == 1) = false) (hr : CompT G 2 (fi_law.inner s_law_141_23 "_law_name" 11) [] (e_law_141_23 2).x 11 nms.reverse.reverse (lst0 (ns.map .int) f 4 none nms.reverse.reverse (tv t) none none none) rows) (hs : SortP (.own rows.reverse) (.own qs)) (hd : CompT G 2 (fi_law.inner s_law_142_15 "_law_row" 11) [(t_law_142_15 2).x] (e_law_142_15 2).x 11 qs.reverse (lst0 (ns.map .int) f 4 none nms.reverse.reverse (tv t) (some (.val (.lst qs.reverse))) none none) due) (hfr : CallOK G 2 35 [tv t] (.own F)) (hle : V.int (F.length : Int) = V.int (due.reverse.length : Int)) (hl2 : (due.reverse.length : Int).natAbs ≤ 1000000) (hc : FF (rangeL 0 ((due.reverse.length : Int) - 0).toNat) (lst0 (ns.map .int) f 4 none nms.reverse.reverse (tv t) (some (.val (.lst qs.reverse))) (some (.own due.reverse)) (some (.own F))) (lst0 (ns.map .int) f 4 y4 nms.reverse.reverse (tv t) (some (.val (.lst qs.reverse))) (some (.own due.reverse)) (some (.own F)))) (hno : CallOK G 2 28 [tv t] (.val (.int s))) (hri : CallOK G 2 87 [tv t] (.val (.int s))) : CallOK G 3 92 [.lst (ns.map .int)] (.val (.bool true)) :=
  call_go (n := 11) (tp := [.r (.val (.int f)), .r (.val (.int 4)), .vs nms, .b false, .r (.val (tv t)), .b false, .vs rows, .r (.own qs), .vs due, .r (.own F), .l .next (lst0 (ns.map .int) f 4 y4 nms.reverse.reverse (tv t) (some (.val (.lst qs.reverse))) (some (.own due.reverse)) (some (.own F))), .r (.val (.int s)), .r (.val (.int s))]) (b_law 2) rfl (b_law_x 2) rfl (by kernel_rfl) (P := (V.int s = V.int s ∧ 0 ≤ 1900) ∧ (CallOK G 2 87 [tv t] (.val (.int s))) ∧ (CallOK G 2 28 [tv t] (.val (.int s))) ∧ (FF (rangeL 0 ((due.reverse.length : Int) - 0).toNat) (lst0 (ns.map .int) f 4 none nms.reverse.reverse (tv t) (some (.val (.lst qs.reverse))) (some (.own due.reverse)) (some (.own F))) (lst0 (ns.map .int) f 4 y4 nms.reverse.reverse (tv t) (some (.val (.lst qs.reverse))) (some (.own due.reverse)) (some (.own F)))) ∧ ((due.reverse.length : Int).natAbs ≤ 1000000) ∧ (V.int (F.length : Int) = V.int (due.reverse.length : Int) ∧ 0 ≤ 1900) ∧ (CallOK G 2 35 [tv t] (.own F)) ∧ (CompT G 2 (fi_law.inner s_law_142_15 "_law_row" 11) [(t_law_142_15 2).x] (e_law_142_15 2).x 11 qs.reverse (lst0 (ns.map .int) f 4 none nms.reverse.reverse (tv t) (some (.val (.lst qs.reverse))) none none) due) ∧ (SortP (.own rows.reverse) (.own qs)) ∧ (CompT G 2 (fi_law.inner s_law_141_23 "_law_name" 11) [] (e_law_141_23 2).x 11 nms.reverse.reverse (lst0 (ns.map .int) f 4 none nms.reverse.reverse (tv t) none none none) rows) ∧ ((f / 2000 % 8 == 1) = false) ∧ ((0 : Int) < 8) ∧ ((0 : Int) < 2000 ∧ (2000 : Int) < 2 ^ 29) ∧ (CallOK G 2 68 [.lst (cut (ns.map V.int) (some 1) (some 61)).reverse.reverse, .lst nms.reverse.reverse] (.val (tv t))) ∧ ((0 : Int) ≤ 1 ∧ (1 : Int) ≤ 1000000) ∧ ((0 : Int) ≤ 61 ∧ (61 : Int) ≤ 1000000) ∧ ((f / 26 % 3 == 1) = false) ∧ ((0 : Int) < 3) ∧ ((0 : Int) < 26 ∧ (26 : Int) < 2 ^ 29) ∧ ((CompL G 2 (fi_law.inner s_law_134_17 "_law_k" 11) (e_law_134_17 2).x 11 [some (.val (.lst (ns.map .int))), some (.val (.int f)), some (.val (.int 4)), none, none, none, none, none, none, none, none, none] [.int 0, .int 1, .int 2, .int 3] nms) ∧ 4 ≤ 1000000) ∧ (4 ≤ 1000000) ∧ (Pick (.val (.lst [.int 4, .int 12])) (f / 1000 % 2) (.val (.int 4))) ∧ ((0 : Int) < 2) ∧ ((0 : Int) < 1000 ∧ (1000 : Int) < 2 ^ 29) ∧ (CallOK G 2 42 [.lst (ns.map .int), .int 0] (.val (.int f))) ∧ True) (by kernel_rfl) ⟨⟨rfl, by decide⟩, hri, hno, hc, hl2, ⟨hle, by decide⟩, hfr, hd, hs, hr, hg, by decide, by decide, ht, by decide, by decide, hf3, by decide, by decide, ⟨hn, by decide⟩, by decide, hm, by decide, by decide, hf, trivial⟩
theorem lw_12kl (ns : List Int) {f s : Int} {nms rows qs due F : List V} {t : Mine.Tree} {y4 : Option O} {t2 : Mine.Tree} {y3 : Option O} {m0 m1 m2 m3 m4 m5 m6 m7 m8 m9 m10 m11 : Nm} (hf : CallOK G 2 42 [.lst (ns.map .int), .int 0] (.val (.int f))) (hm : Pick (.val (.lst [.int 4, .int 12])) (f / 1000 % 2) (.val (.int 12))) (hn : CompL G 2 (fi_law.inner s_law_134_17 "_law_k" 11) (e_law_134_17 2).x 11 [some (.val (.lst (ns.map .int))), some (.val (.int f)), some (.val (.int 12)), none, none, none, none, none, none, none, none, none] [.int 0, .int 1, .int 2, .int 3, .int 4, .int 5, .int 6, .int 7, .int 8, .int 9, .int 10, .int 11] [.str m0, .str m1, .str m2, .str m3, .str m4, .str m5, .str m6, .str m7, .str m8, .str m9, .str m10, .str m11]) (hf3 : (f / 26 % 3 == 1) = true) (hk : CallOK G 2 47 [.int (f / 78), .int 12] (.own nms.reverse)) (ht : CallOK G 2 68 [.lst (cut (ns.map V.int) (some 1) (some 61)).reverse.reverse, .lst nms.reverse.reverse] (.val (tv t))) (hg : (f / 2000 % 8 == 1) = true) (hl : LF (rangeL 0 250) (lst0 (ns.map .int) f 12 none nms.reverse.reverse (tv t) none none none) (lst0 (ns.map .int) f 12 y3 nms.reverse.reverse (tv t2) none none none)) (hr : CompT G 2 (fi_law.inner s_law_141_23 "_law_name" 11) [] (e_law_141_23 2).x 11 nms.reverse.reverse (lst0 (ns.map .int) f 12 y3 nms.reverse.reverse (tv t2) none none none) rows) (hs : SortP (.own rows.reverse) (.own qs)) (hd : CompT G 2 (fi_law.inner s_law_142_15 "_law_row" 11) [(t_law_142_15 2).x] (e_law_142_15 2).x 11 qs.reverse (lst0 (ns.map .int) f 12 y3 nms.reverse.reverse (tv t2) (some (.val (.lst qs.reverse))) none none) due) (hfr : CallOK G 2 35 [tv t2] (.own F)) (hle : V.int (F.length : Int) = V.int (due.reverse.length : Int)) (hl2 : (due.reverse.length : Int).natAbs ≤ 1000000) (hc : FF (rangeL 0 ((due.reverse.length : Int) - 0).toNat) (lst0 (ns.map .int) f 12 y3 nms.reverse.reverse (tv t2) (some (.val (.lst qs.reverse))) (some (.own due.reverse)) (some (.own F))) (lst0 (ns.map .int) f 12 y4 nms.reverse.reverse (tv t2) (some (.val (.lst qs.reverse))) (some (.own due.reverse)) (some (.own F)))) (hno : CallOK G 2 28 [tv t2] (.val (.int s))) (hri : CallOK G 2 87 [tv t2] (.val (.int s))) : CallOK G 3 92 [.lst (ns.map .int)] (.val (.bool true)) :=
  call_go (n := 11) (tp := [.r (.val (.int f)), .r (.val (.int 12)), .vs [.str m0, .str m1, .str m2, .str m3, .str m4, .str m5, .str m6, .str m7, .str m8, .str m9, .str m10, .str m11], .b true, .r (.own nms.reverse), .r (.val (tv t)), .b true, .l .next (lst0 (ns.map .int) f 12 y3 nms.reverse.reverse (tv t2) none none none), .vs rows, .r (.own qs), .vs due, .r (.own F), .l .next (lst0 (ns.map .int) f 12 y4 nms.reverse.reverse (tv t2) (some (.val (.lst qs.reverse))) (some (.own due.reverse)) (some (.own F))), .r (.val (.int s)), .r (.val (.int s))]) (b_law 2) rfl (b_law_x 2) rfl (by kernel_rfl) (P := (V.int s = V.int s ∧ 0 ≤ 1900) ∧ (CallOK G 2 87 [tv t2] (.val (.int s))) ∧ (CallOK G 2 28 [tv t2] (.val (.int s))) ∧ (FF (rangeL 0 ((due.reverse.length : Int) - 0).toNat) (lst0 (ns.map .int) f 12 y3 nms.reverse.reverse (tv t2) (some (.val (.lst qs.reverse))) (some (.own due.reverse)) (some (.own F))) (lst0 (ns.map .int) f 12 y4 nms.reverse.reverse (tv t2) (some (.val (.lst qs.reverse))) (some (.own due.reverse)) (some (.own F)))) ∧ ((due.reverse.length : Int).natAbs ≤ 1000000) ∧ (V.int (F.length : Int) = V.int (due.reverse.length : Int) ∧ 0 ≤ 1900) ∧ (CallOK G 2 35 [tv t2] (.own F)) ∧ (CompT G 2 (fi_law.inner s_law_142_15 "_law_row" 11) [(t_law_142_15 2).x] (e_law_142_15 2).x 11 qs.reverse (lst0 (ns.map .int) f 12 y3 nms.reverse.reverse (tv t2) (some (.val (.lst qs.reverse))) none none) due) ∧ (SortP (.own rows.reverse) (.own qs)) ∧ (CompT G 2 (fi_law.inner s_law_141_23 "_law_name" 11) [] (e_law_141_23 2).x 11 nms.reverse.reverse (lst0 (ns.map .int) f 12 y3 nms.reverse.reverse (tv t2) none none none) rows) ∧ (LF (rangeL 0 250) (lst0 (ns.map .int) f 12 none nms.reverse.reverse (tv t) none none none) (lst0 (ns.map .int) f 12 y3 nms.reverse.reverse (tv t2) none none none)) ∧ ((250 : Int).natAbs ≤ 1000000) ∧ ((f / 2000 % 8 == 1) = true) ∧ ((0 : Int) < 8) ∧ ((0 : Int) < 2000 ∧ (2000 : Int) < 2 ^ 29) ∧ (CallOK G 2 68 [.lst (cut (ns.map V.int) (some 1) (some 61)).reverse.reverse, .lst nms.reverse.reverse] (.val (tv t))) ∧ ((0 : Int) ≤ 1 ∧ (1 : Int) ≤ 1000000) ∧ ((0 : Int) ≤ 61 ∧ (61 : Int) ≤ 1000000) ∧ (CallOK G 2 47 [.int (f / 78), .int 12] (.own nms.reverse)) ∧ ((0 : Int) < 78 ∧ (78 : Int) < 2 ^ 29) ∧ ((f / 26 % 3 == 1) = true) ∧ ((0 : Int) < 3) ∧ ((0 : Int) < 26 ∧ (26 : Int) < 2 ^ 29) ∧ ((CompL G 2 (fi_law.inner s_law_134_17 "_law_k" 11) (e_law_134_17 2).x 11 [some (.val (.lst (ns.map .int))), some (.val (.int f)), some (.val (.int 12)), none, none, none, none, none, none, none, none, none] [.int 0, .int 1, .int 2, .int 3, .int 4, .int 5, .int 6, .int 7, .int 8, .int 9, .int 10, .int 11] [.str m0, .str m1, .str m2, .str m3, .str m4, .str m5, .str m6, .str m7, .str m8, .str m9, .str m10, .str m11]) ∧ 12 ≤ 1000000) ∧ (12 ≤ 1000000) ∧ (Pick (.val (.lst [.int 4, .int 12])) (f / 1000 % 2) (.val (.int 12))) ∧ ((0 : Int) < 2) ∧ ((0 : Int) < 1000 ∧ (1000 : Int) < 2 ^ 29) ∧ (CallOK G 2 42 [.lst (ns.map .int), .int 0] (.val (.int f))) ∧ True) (by kernel_rfl) ⟨⟨rfl, by decide⟩, hri, hno, hc, hl2, ⟨hle, by decide⟩, hfr, hd, hs, hr, hl, by decide, hg, by decide, by decide, ht, by decide, by decide, hk, by decide, hf3, by decide, by decide, ⟨hn, by decide⟩, by decide, hm, by decide, by decide, hf, trivial⟩
theorem lw_12ks (ns : List Int) {f s : Int} {nms rows qs due F : List V} {t : Mine.Tree} {y4 : Option O} {m0 m1 m2 m3 m4 m5 m6 m7 m8 m9 m10 m11 : Nm} (hf : CallOK G 2 42 [.lst (ns.map .int), .int 0] (.val (.int f))) (hm : Pick (.val (.lst [.int 4, .int 12])) (f / 1000 % 2) (.val (.int 12))) (hn : CompL G 2 (fi_law.inner s_law_134_17 "_law_k" 11) (e_law_134_17 2).x 11 [some (.val (.lst (ns.map .int))), some (.val (.int f)), some (.val (.int 12)), none, none, none, none, none, none, none, none, none] [.int 0, .int 1, .int 2, .int 3, .int 4, .int 5, .int 6, .int 7, .int 8, .int 9, .int 10, .int 11] [.str m0, .str m1, .str m2, .str m3, .str m4, .str m5, .str m6, .str m7, .str m8, .str m9, .str m10, .str m11]) (hf3 : (f / 26 % 3 == 1) = true) (hk : CallOK G 2 47 [.int (f / 78), .int 12] (.own nms.reverse)) (ht : CallOK G 2 68 [.lst (cut (ns.map V.int) (some 1) (some 61)).reverse.reverse, .lst nms.reverse.reverse] (.val (tv t))) (hg : (f / 2000 % 8 == 1) = false) (hr : CompT G 2 (fi_law.inner s_law_141_23 "_law_name" 11) [] (e_law_141_23 2).x 11 nms.reverse.reverse (lst0 (ns.map .int) f 12 none nms.reverse.reverse (tv t) none none none) rows) (hs : SortP (.own rows.reverse) (.own qs)) (hd : CompT G 2 (fi_law.inner s_law_142_15 "_law_row" 11) [(t_law_142_15 2).x] (e_law_142_15 2).x 11 qs.reverse (lst0 (ns.map .int) f 12 none nms.reverse.reverse (tv t) (some (.val (.lst qs.reverse))) none none) due) (hfr : CallOK G 2 35 [tv t] (.own F)) (hle : V.int (F.length : Int) = V.int (due.reverse.length : Int)) (hl2 : (due.reverse.length : Int).natAbs ≤ 1000000) (hc : FF (rangeL 0 ((due.reverse.length : Int) - 0).toNat) (lst0 (ns.map .int) f 12 none nms.reverse.reverse (tv t) (some (.val (.lst qs.reverse))) (some (.own due.reverse)) (some (.own F))) (lst0 (ns.map .int) f 12 y4 nms.reverse.reverse (tv t) (some (.val (.lst qs.reverse))) (some (.own due.reverse)) (some (.own F)))) (hno : CallOK G 2 28 [tv t] (.val (.int s))) (hri : CallOK G 2 87 [tv t] (.val (.int s))) : CallOK G 3 92 [.lst (ns.map .int)] (.val (.bool true)) :=
  call_go (n := 11) (tp := [.r (.val (.int f)), .r (.val (.int 12)), .vs [.str m0, .str m1, .str m2, .str m3, .str m4, .str m5, .str m6, .str m7, .str m8, .str m9, .str m10, .str m11], .b true, .r (.own nms.reverse), .r (.val (tv t)), .b false, .vs rows, .r (.own qs), .vs due, .r (.own F), .l .next (lst0 (ns.map .int) f 12 y4 nms.reverse.reverse (tv t) (some (.val (.lst qs.reverse))) (some (.own due.reverse)) (some (.own F))), .r (.val (.int s)), .r (.val (.int s))]) (b_law 2) rfl (b_law_x 2) rfl (by kernel_rfl) (P := (V.int s = V.int s ∧ 0 ≤ 1900) ∧ (CallOK G 2 87 [tv t] (.val (.int s))) ∧ (CallOK G 2 28 [tv t] (.val (.int s))) ∧ (FF (rangeL 0 ((due.reverse.length : Int) - 0).toNat) (lst0 (ns.map .int) f 12 none nms.reverse.reverse (tv t) (some (.val (.lst qs.reverse))) (some (.own due.reverse)) (some (.own F))) (lst0 (ns.map .int) f 12 y4 nms.reverse.reverse (tv t) (some (.val (.lst qs.reverse))) (some (.own due.reverse)) (some (.own F)))) ∧ ((due.reverse.length : Int).natAbs ≤ 1000000) ∧ (V.int (F.length : Int) = V.int (due.reverse.length : Int) ∧ 0 ≤ 1900) ∧ (CallOK G 2 35 [tv t] (.own F)) ∧ (CompT G 2 (fi_law.inner s_law_142_15 "_law_row" 11) [(t_law_142_15 2).x] (e_law_142_15 2).x 11 qs.reverse (lst0 (ns.map .int) f 12 none nms.reverse.reverse (tv t) (some (.val (.lst qs.reverse))) none none) due) ∧ (SortP (.own rows.reverse) (.own qs)) ∧ (CompT G 2 (fi_law.inner s_law_141_23 "_law_name" 11) [] (e_law_141_23 2).x 11 nms.reverse.reverse (lst0 (ns.map .int) f 12 none nms.reverse.reverse (tv t) none none none) rows) ∧ ((f / 2000 % 8 == 1) = false) ∧ ((0 : Int) < 8) ∧ ((0 : Int) < 2000 ∧ (2000 : Int) < 2 ^ 29) ∧ (CallOK G 2 68 [.lst (cut (ns.map V.int) (some 1) (some 61)).reverse.reverse, .lst nms.reverse.reverse] (.val (tv t))) ∧ ((0 : Int) ≤ 1 ∧ (1 : Int) ≤ 1000000) ∧ ((0 : Int) ≤ 61 ∧ (61 : Int) ≤ 1000000) ∧ (CallOK G 2 47 [.int (f / 78), .int 12] (.own nms.reverse)) ∧ ((0 : Int) < 78 ∧ (78 : Int) < 2 ^ 29) ∧ ((f / 26 % 3 == 1) = true) ∧ ((0 : Int) < 3) ∧ ((0 : Int) < 26 ∧ (26 : Int) < 2 ^ 29) ∧ ((CompL G 2 (fi_law.inner s_law_134_17 "_law_k" 11) (e_law_134_17 2).x 11 [some (.val (.lst (ns.map .int))), some (.val (.int f)), some (.val (.int 12)), none, none, none, none, none, none, none, none, none] [.int 0, .int 1, .int 2, .int 3, .int 4, .int 5, .int 6, .int 7, .int 8, .int 9, .int 10, .int 11] [.str m0, .str m1, .str m2, .str m3, .str m4, .str m5, .str m6, .str m7, .str m8, .str m9, .str m10, .str m11]) ∧ 12 ≤ 1000000) ∧ (12 ≤ 1000000) ∧ (Pick (.val (.lst [.int 4, .int 12])) (f / 1000 % 2) (.val (.int 12))) ∧ ((0 : Int) < 2) ∧ ((0 : Int) < 1000 ∧ (1000 : Int) < 2 ^ 29) ∧ (CallOK G 2 42 [.lst (ns.map .int), .int 0] (.val (.int f))) ∧ True) (by kernel_rfl) ⟨⟨rfl, by decide⟩, hri, hno, hc, hl2, ⟨hle, by decide⟩, hfr, hd, hs, hr, hg, by decide, by decide, ht, by decide, by decide, hk, by decide, hf3, by decide, by decide, ⟨hn, by decide⟩, by decide, hm, by decide, by decide, hf, trivial⟩
theorem lw_12nl (ns : List Int) {f s : Int} {nms rows qs due F : List V} {t : Mine.Tree} {y4 : Option O} {t2 : Mine.Tree} {y3 : Option O} (hf : CallOK G 2 42 [.lst (ns.map .int), .int 0] (.val (.int f))) (hm : Pick (.val (.lst [.int 4, .int 12])) (f / 1000 % 2) (.val (.int 12))) (hn : CompL G 2 (fi_law.inner s_law_134_17 "_law_k" 11) (e_law_134_17 2).x 11 [some (.val (.lst (ns.map .int))), some (.val (.int f)), some (.val (.int 12)), none, none, none, none, none, none, none, none, none] [.int 0, .int 1, .int 2, .int 3, .int 4, .int 5, .int 6, .int 7, .int 8, .int 9, .int 10, .int 11] nms) (hf3 : (f / 26 % 3 == 1) = false) (ht : CallOK G 2 68 [.lst (cut (ns.map V.int) (some 1) (some 61)).reverse.reverse, .lst nms.reverse.reverse] (.val (tv t))) (hg : (f / 2000 % 8 == 1) = true) (hl : LF (rangeL 0 250) (lst0 (ns.map .int) f 12 none nms.reverse.reverse (tv t) none none none) (lst0 (ns.map .int) f 12 y3 nms.reverse.reverse (tv t2) none none none)) (hr : CompT G 2 (fi_law.inner s_law_141_23 "_law_name" 11) [] (e_law_141_23 2).x 11 nms.reverse.reverse (lst0 (ns.map .int) f 12 y3 nms.reverse.reverse (tv t2) none none none) rows) (hs : SortP (.own rows.reverse) (.own qs)) (hd : CompT G 2 (fi_law.inner s_law_142_15 "_law_row" 11) [(t_law_142_15 2).x] (e_law_142_15 2).x 11 qs.reverse (lst0 (ns.map .int) f 12 y3 nms.reverse.reverse (tv t2) (some (.val (.lst qs.reverse))) none none) due) (hfr : CallOK G 2 35 [tv t2] (.own F)) (hle : V.int (F.length : Int) = V.int (due.reverse.length : Int)) (hl2 : (due.reverse.length : Int).natAbs ≤ 1000000) (hc : FF (rangeL 0 ((due.reverse.length : Int) - 0).toNat) (lst0 (ns.map .int) f 12 y3 nms.reverse.reverse (tv t2) (some (.val (.lst qs.reverse))) (some (.own due.reverse)) (some (.own F))) (lst0 (ns.map .int) f 12 y4 nms.reverse.reverse (tv t2) (some (.val (.lst qs.reverse))) (some (.own due.reverse)) (some (.own F)))) (hno : CallOK G 2 28 [tv t2] (.val (.int s))) (hri : CallOK G 2 87 [tv t2] (.val (.int s))) : CallOK G 3 92 [.lst (ns.map .int)] (.val (.bool true)) :=
  call_go (n := 11) (tp := [.r (.val (.int f)), .r (.val (.int 12)), .vs nms, .b false, .r (.val (tv t)), .b true, .l .next (lst0 (ns.map .int) f 12 y3 nms.reverse.reverse (tv t2) none none none), .vs rows, .r (.own qs), .vs due, .r (.own F), .l .next (lst0 (ns.map .int) f 12 y4 nms.reverse.reverse (tv t2) (some (.val (.lst qs.reverse))) (some (.own due.reverse)) (some (.own F))), .r (.val (.int s)), .r (.val (.int s))]) (b_law 2) rfl (b_law_x 2) rfl (by kernel_rfl) (P := (V.int s = V.int s ∧ 0 ≤ 1900) ∧ (CallOK G 2 87 [tv t2] (.val (.int s))) ∧ (CallOK G 2 28 [tv t2] (.val (.int s))) ∧ (FF (rangeL 0 ((due.reverse.length : Int) - 0).toNat) (lst0 (ns.map .int) f 12 y3 nms.reverse.reverse (tv t2) (some (.val (.lst qs.reverse))) (some (.own due.reverse)) (some (.own F))) (lst0 (ns.map .int) f 12 y4 nms.reverse.reverse (tv t2) (some (.val (.lst qs.reverse))) (some (.own due.reverse)) (some (.own F)))) ∧ ((due.reverse.length : Int).natAbs ≤ 1000000) ∧ (V.int (F.length : Int) = V.int (due.reverse.length : Int) ∧ 0 ≤ 1900) ∧ (CallOK G 2 35 [tv t2] (.own F)) ∧ (CompT G 2 (fi_law.inner s_law_142_15 "_law_row" 11) [(t_law_142_15 2).x] (e_law_142_15 2).x 11 qs.reverse (lst0 (ns.map .int) f 12 y3 nms.reverse.reverse (tv t2) (some (.val (.lst qs.reverse))) none none) due) ∧ (SortP (.own rows.reverse) (.own qs)) ∧ (CompT G 2 (fi_law.inner s_law_141_23 "_law_name" 11) [] (e_law_141_23 2).x 11 nms.reverse.reverse (lst0 (ns.map .int) f 12 y3 nms.reverse.reverse (tv t2) none none none) rows) ∧ (LF (rangeL 0 250) (lst0 (ns.map .int) f 12 none nms.reverse.reverse (tv t) none none none) (lst0 (ns.map .int) f 12 y3 nms.reverse.reverse (tv t2) none none none)) ∧ ((250 : Int).natAbs ≤ 1000000) ∧ ((f / 2000 % 8 == 1) = true) ∧ ((0 : Int) < 8) ∧ ((0 : Int) < 2000 ∧ (2000 : Int) < 2 ^ 29) ∧ (CallOK G 2 68 [.lst (cut (ns.map V.int) (some 1) (some 61)).reverse.reverse, .lst nms.reverse.reverse] (.val (tv t))) ∧ ((0 : Int) ≤ 1 ∧ (1 : Int) ≤ 1000000) ∧ ((0 : Int) ≤ 61 ∧ (61 : Int) ≤ 1000000) ∧ ((f / 26 % 3 == 1) = false) ∧ ((0 : Int) < 3) ∧ ((0 : Int) < 26 ∧ (26 : Int) < 2 ^ 29) ∧ ((CompL G 2 (fi_law.inner s_law_134_17 "_law_k" 11) (e_law_134_17 2).x 11 [some (.val (.lst (ns.map .int))), some (.val (.int f)), some (.val (.int 12)), none, none, none, none, none, none, none, none, none] [.int 0, .int 1, .int 2, .int 3, .int 4, .int 5, .int 6, .int 7, .int 8, .int 9, .int 10, .int 11] nms) ∧ 12 ≤ 1000000) ∧ (12 ≤ 1000000) ∧ (Pick (.val (.lst [.int 4, .int 12])) (f / 1000 % 2) (.val (.int 12))) ∧ ((0 : Int) < 2) ∧ ((0 : Int) < 1000 ∧ (1000 : Int) < 2 ^ 29) ∧ (CallOK G 2 42 [.lst (ns.map .int), .int 0] (.val (.int f))) ∧ True) (by kernel_rfl) ⟨⟨rfl, by decide⟩, hri, hno, hc, hl2, ⟨hle, by decide⟩, hfr, hd, hs, hr, hl, by decide, hg, by decide, by decide, ht, by decide, by decide, hf3, by decide, by decide, ⟨hn, by decide⟩, by decide, hm, by decide, by decide, hf, trivial⟩
theorem lw_12ns (ns : List Int) {f s : Int} {nms rows qs due F : List V} {t : Mine.Tree} {y4 : Option O} (hf : CallOK G 2 42 [.lst (ns.map .int), .int 0] (.val (.int f))) (hm : Pick (.val (.lst [.int 4, .int 12])) (f / 1000 % 2) (.val (.int 12))) (hn : CompL G 2 (fi_law.inner s_law_134_17 "_law_k" 11) (e_law_134_17 2).x 11 [some (.val (.lst (ns.map .int))), some (.val (.int f)), some (.val (.int 12)), none, none, none, none, none, none, none, none, none] [.int 0, .int 1, .int 2, .int 3, .int 4, .int 5, .int 6, .int 7, .int 8, .int 9, .int 10, .int 11] nms) (hf3 : (f / 26 % 3 == 1) = false) (ht : CallOK G 2 68 [.lst (cut (ns.map V.int) (some 1) (some 61)).reverse.reverse, .lst nms.reverse.reverse] (.val (tv t))) (hg : (f / 2000 % 8 == 1) = false) (hr : CompT G 2 (fi_law.inner s_law_141_23 "_law_name" 11) [] (e_law_141_23 2).x 11 nms.reverse.reverse (lst0 (ns.map .int) f 12 none nms.reverse.reverse (tv t) none none none) rows) (hs : SortP (.own rows.reverse) (.own qs)) (hd : CompT G 2 (fi_law.inner s_law_142_15 "_law_row" 11) [(t_law_142_15 2).x] (e_law_142_15 2).x 11 qs.reverse (lst0 (ns.map .int) f 12 none nms.reverse.reverse (tv t) (some (.val (.lst qs.reverse))) none none) due) (hfr : CallOK G 2 35 [tv t] (.own F)) (hle : V.int (F.length : Int) = V.int (due.reverse.length : Int)) (hl2 : (due.reverse.length : Int).natAbs ≤ 1000000) (hc : FF (rangeL 0 ((due.reverse.length : Int) - 0).toNat) (lst0 (ns.map .int) f 12 none nms.reverse.reverse (tv t) (some (.val (.lst qs.reverse))) (some (.own due.reverse)) (some (.own F))) (lst0 (ns.map .int) f 12 y4 nms.reverse.reverse (tv t) (some (.val (.lst qs.reverse))) (some (.own due.reverse)) (some (.own F)))) (hno : CallOK G 2 28 [tv t] (.val (.int s))) (hri : CallOK G 2 87 [tv t] (.val (.int s))) : CallOK G 3 92 [.lst (ns.map .int)] (.val (.bool true)) :=
  call_go (n := 11) (tp := [.r (.val (.int f)), .r (.val (.int 12)), .vs nms, .b false, .r (.val (tv t)), .b false, .vs rows, .r (.own qs), .vs due, .r (.own F), .l .next (lst0 (ns.map .int) f 12 y4 nms.reverse.reverse (tv t) (some (.val (.lst qs.reverse))) (some (.own due.reverse)) (some (.own F))), .r (.val (.int s)), .r (.val (.int s))]) (b_law 2) rfl (b_law_x 2) rfl (by kernel_rfl) (P := (V.int s = V.int s ∧ 0 ≤ 1900) ∧ (CallOK G 2 87 [tv t] (.val (.int s))) ∧ (CallOK G 2 28 [tv t] (.val (.int s))) ∧ (FF (rangeL 0 ((due.reverse.length : Int) - 0).toNat) (lst0 (ns.map .int) f 12 none nms.reverse.reverse (tv t) (some (.val (.lst qs.reverse))) (some (.own due.reverse)) (some (.own F))) (lst0 (ns.map .int) f 12 y4 nms.reverse.reverse (tv t) (some (.val (.lst qs.reverse))) (some (.own due.reverse)) (some (.own F)))) ∧ ((due.reverse.length : Int).natAbs ≤ 1000000) ∧ (V.int (F.length : Int) = V.int (due.reverse.length : Int) ∧ 0 ≤ 1900) ∧ (CallOK G 2 35 [tv t] (.own F)) ∧ (CompT G 2 (fi_law.inner s_law_142_15 "_law_row" 11) [(t_law_142_15 2).x] (e_law_142_15 2).x 11 qs.reverse (lst0 (ns.map .int) f 12 none nms.reverse.reverse (tv t) (some (.val (.lst qs.reverse))) none none) due) ∧ (SortP (.own rows.reverse) (.own qs)) ∧ (CompT G 2 (fi_law.inner s_law_141_23 "_law_name" 11) [] (e_law_141_23 2).x 11 nms.reverse.reverse (lst0 (ns.map .int) f 12 none nms.reverse.reverse (tv t) none none none) rows) ∧ ((f / 2000 % 8 == 1) = false) ∧ ((0 : Int) < 8) ∧ ((0 : Int) < 2000 ∧ (2000 : Int) < 2 ^ 29) ∧ (CallOK G 2 68 [.lst (cut (ns.map V.int) (some 1) (some 61)).reverse.reverse, .lst nms.reverse.reverse] (.val (tv t))) ∧ ((0 : Int) ≤ 1 ∧ (1 : Int) ≤ 1000000) ∧ ((0 : Int) ≤ 61 ∧ (61 : Int) ≤ 1000000) ∧ ((f / 26 % 3 == 1) = false) ∧ ((0 : Int) < 3) ∧ ((0 : Int) < 26 ∧ (26 : Int) < 2 ^ 29) ∧ ((CompL G 2 (fi_law.inner s_law_134_17 "_law_k" 11) (e_law_134_17 2).x 11 [some (.val (.lst (ns.map .int))), some (.val (.int f)), some (.val (.int 12)), none, none, none, none, none, none, none, none, none] [.int 0, .int 1, .int 2, .int 3, .int 4, .int 5, .int 6, .int 7, .int 8, .int 9, .int 10, .int 11] nms) ∧ 12 ≤ 1000000) ∧ (12 ≤ 1000000) ∧ (Pick (.val (.lst [.int 4, .int 12])) (f / 1000 % 2) (.val (.int 12))) ∧ ((0 : Int) < 2) ∧ ((0 : Int) < 1000 ∧ (1000 : Int) < 2 ^ 29) ∧ (CallOK G 2 42 [.lst (ns.map .int), .int 0] (.val (.int f))) ∧ True) (by kernel_rfl) ⟨⟨rfl, by decide⟩, hri, hno, hc, hl2, ⟨hle, by decide⟩, hfr, hd, hs, hr, hg, by decide, by decide, ht, by decide, by decide, hf3, by decide, by decide, ⟨hn, by decide⟩, by decide, hm, by decide, by decide, hf, trivial⟩
theorem plt_tot {a b : Ky} (h : a ≠ b) : plt a b = true ∨ plt b a = true := by
  rw [plt_iff, plt_iff]
  rcases Int.lt_trichotomy a.1 b.1 with q | q | q
  · exact .inl (.inl q)
  · by_cases h1 : a.2 < b.2
    · exact .inl (.inr ⟨q, h1⟩)
    · by_cases h2 : b.2 < a.2
      · exact .inr (.inr ⟨q.symm, h2⟩)
      · exact absurd (Prod.ext q (List.le_antisymm (show a.2 ≤ b.2 from h2) (show b.2 ≤ a.2 from h1))) h
  · exact .inr (.inl q)
theorem ins_ex (x : Ky) : ∀ l : List Ky, l.Pairwise (fun a b => plt a b = true) → (∀ y ∈ l, x ≠ y) → ∃ l' : List Ky, l'.Perm (x :: l) ∧ l'.Pairwise (fun a b => plt a b = true)
  | [], _, _ => ⟨[x], .refl _, List.pairwise_singleton _ _⟩
  | y :: l, h, k => by
    rw [List.pairwise_cons] at h
    rcases plt_tot (k y List.mem_cons_self) with q | q
    · refine ⟨x :: y :: l, .refl _, List.pairwise_cons.mpr ⟨fun z hz => ?_, List.pairwise_cons.mpr h⟩⟩
      rcases List.mem_cons.mp hz with rfl | hz
      · exact q
      · exact plt_tr q (h.1 z hz)
    · obtain ⟨l', p, o⟩ := ins_ex x l h.2 fun z hz => k z (List.mem_cons_of_mem _ hz)
      refine ⟨y :: l', (p.cons y).trans (.swap x y l), List.pairwise_cons.mpr ⟨fun z hz => ?_, o⟩⟩
      rcases List.mem_cons.mp (p.mem_iff.mp hz) with rfl | hz
      · exact q
      · exact h.1 z hz
theorem sort_ex : ∀ l : List Ky, l.Nodup → ∃ l' : List Ky, l'.Perm l ∧ l'.Pairwise (fun a b => plt a b = true)
  | [], _ => ⟨[], .refl _, .nil⟩
  | x :: l, h => by
    rw [List.nodup_cons] at h
    obtain ⟨l1, p1, o1⟩ := sort_ex l h.2
    obtain ⟨l2, p2, o2⟩ := ins_ex x l1 o1 fun y hy e => h.1 (e ▸ p1.mem_iff.mp hy)
    exact ⟨l2, p2.trans (p1.cons x), o2⟩
theorem law_end (ns : List Int) {f m : Int} (nl : List Nm) (nd : nl.Nodup) (t : Mine.Tree) (hi : nmIn nl t) (hz : sz t ≤ 1200) (h2 : 2 ≤ nl.length) (h64 : nl.length < 64) (y3 : Option O) : ∃ (rows qs due F : List V) (s : Int) (y4 : Option O),
    CompT G 2 (fi_law.inner s_law_141_23 "_law_name" 11) [] (e_law_141_23 2).x 11 (nl.map V.str).reverse.reverse (lst0 (ns.map .int) f m y3 (nl.map V.str).reverse.reverse (tv t) none none none) rows ∧ SortP (.own rows.reverse) (.own qs) ∧
    CompT G 2 (fi_law.inner s_law_142_15 "_law_row" 11) [(t_law_142_15 2).x] (e_law_142_15 2).x 11 qs.reverse (lst0 (ns.map .int) f m y3 (nl.map V.str).reverse.reverse (tv t) (some (.val (.lst qs.reverse))) none none) due ∧
    CallOK G 2 35 [tv t] (.own F) ∧ V.int (F.length : Int) = V.int (due.reverse.length : Int) ∧ (due.reverse.length : Int).natAbs ≤ 1000000 ∧
    FF (rangeL 0 ((due.reverse.length : Int) - 0).toNat) (lst0 (ns.map .int) f m y3 (nl.map V.str).reverse.reverse (tv t) (some (.val (.lst qs.reverse))) (some (.own due.reverse)) (some (.own F))) (lst0 (ns.map .int) f m y4 (nl.map V.str).reverse.reverse (tv t) (some (.val (.lst qs.reverse))) (some (.own due.reverse)) (some (.own F))) ∧
    CallOK G 2 28 [tv t] (.val (.int s)) ∧ CallOK G 2 87 [tv t] (.val (.int s)) := by
  have hz4 : 4 * sz t < room := by show _ < 1000000; omega
  have ndp : (nl.map fun n => (whv n t, n)).Nodup := by
    rw [List.nodup_iff_pairwise_ne, List.pairwise_map]
    exact (List.nodup_iff_pairwise_ne.mp nd).imp fun h e => h (congrArg Prod.snd e)
  obtain ⟨qk, hp, hs⟩ := sort_ex _ ndp
  have hdue := due_eq nd t hi hp hs
  have hql : qk.length = nl.length := by rw [hp.length_eq, List.length_map]
  have hflen := fr_len t [] []
  have hflen : (fr t [] []).length ≤ 0 + sz t := hflen
  have hrev : (((qk.filter (fun q => decide (q.1 ≥ 0))).map (·.2)).map V.str).reverse = (fr t [] []).map V.str := by
    rw [hdue, List.map_reverse, List.reverse_reverse]
  obtain ⟨y4, hc⟩ := lw_chk (l := ns.map .int) (NV := (nl.map V.str).reverse.reverse) (f := f) (m := m) (t := tv t) (x6 := some (.val (.lst (qk.map pv).reverse.reverse))) (fr t [] []) (fr t [] []).length 0 y3 (Nat.zero_add _)
  refine ⟨(nl.map fun n => (whv n t, n)).map pv, (qk.map pv).reverse, ((qk.filter (fun q => decide (q.1 ≥ 0))).map (·.2)).map V.str, (fr t [] []).map .str, sz t, y4, ⟨?_, ?_⟩, ⟨_, qk, ?_, rfl, hp, hs, by rw [List.length_map]; exact h2, by rw [List.length_map]; exact h64⟩, ⟨?_, ?_⟩, ok_free (d := 0) t hz4, ?_, ?_, ?_, ok_nodes (d := 0) t hz4, ok_right (d := 0) t hz4 (by omega)⟩
  · rw [List.reverse_reverse]; exact lw_rows t hz4 nl
  · rw [List.reverse_reverse, List.length_map]; show _ ≤ 1000000; omega
  · show V.lst _ = _; rw [List.reverse_reverse]
  · rw [show (qk.map pv).reverse.reverse = qk.map pv from List.reverse_reverse _]; exact lw_due qk
  · rw [show (qk.map pv).reverse.reverse = qk.map pv from List.reverse_reverse _, List.length_map, hql]; show _ ≤ 1000000; omega
  · rw [hrev]
  · rw [hrev, List.length_map]; omega
  · rw [hrev, List.length_map]
    have : (((fr t [] []).length : Int) - 0).toNat = (fr t [] []).length := by omega
    rw [this]
    exact hc
noncomputable def nmk (f : Int) (k : Nat) : Nm := nameOf (f / 208) (f / 26 % 8) (lt26 (f + 7 * (k : Int)))
theorem ok_nmk (f : Int) (k : Nat) : CallOK G 2 54 [.int (f - f % 26 + (f + 7 * (k : Int)) % 26)] (.val (.str (nmk f k))) := by
  have h := ok_name (d := 1) (f - f % 26 + (f + 7 * (k : Int)) % 26)
  have e1 : (f - f % 26 + (f + 7 * (k : Int)) % 26) / 208 = f / 208 := by omega
  have e2 : (f - f % 26 + (f + 7 * (k : Int)) % 26) / 26 = f / 26 := by omega
  have e3 : lt26 (f - f % 26 + (f + 7 * (k : Int)) % 26) = lt26 (f + 7 * (k : Int)) := by
    unfold lt26
    have : (f - f % 26 + (f + 7 * (k : Int)) % 26) % 26 = (f + 7 * (k : Int)) % 26 := by omega
    rw [this]
  rw [e1, e2, e3] at h
  exact h
theorem nmk_nodup (f : Int) (m : Nat) (hm : m ≤ 12) : ((List.range m).map (nmk f)).Nodup := by
  rw [List.nodup_iff_pairwise_ne, List.pairwise_map]
  refine List.pairwise_lt_range.imp_of_mem fun {a b} ha hb h e => ?_
  have h1 := List.mem_range.mp ha
  have h2 := List.mem_range.mp hb
  have := lt26_inj (nameOf_inj e)
  omega
theorem law_tree (ns : List Int) (hlen : ns.length ≤ 63) (nl : List Nm) (h2 : 2 ≤ nl.length) (h64 : nl.length < 64) : ∃ t : Mine.Tree, sz t ≤ 600 ∧ nmIn nl t ∧ CallOK G 2 68 [.lst (cut (ns.map V.int) (some 1) (some 61)).reverse.reverse, .lst (nl.map V.str).reverse.reverse] (.val (tv t)) := by
  have e1 : (cut (ns.map V.int) (some 1) (some 61)).reverse.reverse = (((ns.take 61).drop 1).map V.int) := by
    rw [List.reverse_reverse, List.map_drop, List.map_take]; rfl
  cases nl with
  | nil => cases h2
  | cons x0 nl =>
    obtain ⟨t, z1, z2, z3⟩ := ok_tree (d := 0) (x0 := x0) nl (by rw [List.length_cons] at h64; omega) ((ns.take 61).drop 1) (by rw [List.length_drop, List.length_take]; omega)
    refine ⟨t, z1, z2, ?_⟩
    rw [e1, List.reverse_reverse]; exact z3
theorem law_ok (ns : List Int) (hlen : ns.length ≤ 63) : CallOK G 3 92 [.lst (ns.map .int)] (.val (.bool true)) := by
  obtain ⟨f, hf⟩ := ok_cell (d := 1) ns 0
  have h2 := Int.emod_nonneg (f / 1000) (b := 2) (by decide)
  have h2' := Int.emod_lt_of_pos (f / 1000) (b := 2) (by decide)
  rcases (show f / 1000 % 2 = 0 ∨ f / 1000 % 2 = 1 by omega) with hm | hm
  · have hm : Pick (.val (.lst [.int 4, .int 12])) (f / 1000 % 2) (.val (.int 4)) := by unfold Pick; rw [hm]; rfl
    have hn := lw_names4 ns f (ok_nmk f 0) (ok_nmk f 1) (ok_nmk f 2) (ok_nmk f 3)
    cases hf3 : f / 26 % 3 == 1 with
    | true =>
      obtain ⟨nl, nd, nlen, hk⟩ := ok_kin4 (d := 1) (f / 78)
      obtain ⟨t, z1, z2, ht⟩ := law_tree ns hlen nl (by omega) (by omega)
      cases hg : f / 2000 % 8 == 1 with
      | true =>
        obtain ⟨t2, y3, z3, z4, hl⟩ := lw_for (N := nl) (l := ns.map .int) (NV := (nl.map V.str).reverse.reverse) (f := f) (m := 4) 250 0 none t z2
        obtain ⟨rows, qs, due, F, s, y4, a1, a2, a3, a4, a5, a6, a7, a8, a9⟩ := law_end ns (f := f) (m := 4) nl nd t2 z4 (by omega) (by omega) (by omega) y3
        exact lw_4kl ns hf hm hn hf3 hk ht hg hl a1 a2 a3 a4 a5 a6 a7 a8 a9
      | false =>
        obtain ⟨rows, qs, due, F, s, y4, a1, a2, a3, a4, a5, a6, a7, a8, a9⟩ := law_end ns (f := f) (m := 4) nl nd t z2 (by omega) (by omega) (by omega) none
        exact lw_4ks ns hf hm hn hf3 hk ht hg a1 a2 a3 a4 a5 a6 a7 a8 a9
    | false =>
      have nd : ([nmk f 0, nmk f 1, nmk f 2, nmk f 3] : List Nm).Nodup := nmk_nodup f 4 (by decide)
      obtain ⟨t, z1, z2, ht⟩ := law_tree ns hlen [nmk f 0, nmk f 1, nmk f 2, nmk f 3] (by show 2 ≤ 4; decide) (by show 4 < 64; decide)
      cases hg : f / 2000 % 8 == 1 with
      | true =>
        obtain ⟨t2, y3, z3, z4, hl⟩ := lw_for (N := [nmk f 0, nmk f 1, nmk f 2, nmk f 3]) (l := ns.map .int) (NV := (([nmk f 0, nmk f 1, nmk f 2, nmk f 3] : List Nm).map V.str).reverse.reverse) (f := f) (m := 4) 250 0 none t z2
        obtain ⟨rows, qs, due, F, s, y4, a1, a2, a3, a4, a5, a6, a7, a8, a9⟩ := law_end ns (f := f) (m := 4) [nmk f 0, nmk f 1, nmk f 2, nmk f 3] nd t2 z4 (by omega) (by show 2 ≤ 4; decide) (by show 4 < 64; decide) y3
        exact lw_4nl ns hf hm hn hf3 ht hg hl a1 a2 a3 a4 a5 a6 a7 a8 a9
      | false =>
        obtain ⟨rows, qs, due, F, s, y4, a1, a2, a3, a4, a5, a6, a7, a8, a9⟩ := law_end ns (f := f) (m := 4) [nmk f 0, nmk f 1, nmk f 2, nmk f 3] nd t z2 (by omega) (by show 2 ≤ 4; decide) (by show 4 < 64; decide) none
        exact lw_4ns ns hf hm hn hf3 ht hg a1 a2 a3 a4 a5 a6 a7 a8 a9
  · have hm : Pick (.val (.lst [.int 4, .int 12])) (f / 1000 % 2) (.val (.int 12)) := by unfold Pick; rw [hm]; rfl
    have hn := lw_names12 ns f (ok_nmk f 0) (ok_nmk f 1) (ok_nmk f 2) (ok_nmk f 3) (ok_nmk f 4) (ok_nmk f 5) (ok_nmk f 6) (ok_nmk f 7) (ok_nmk f 8) (ok_nmk f 9) (ok_nmk f 10) (ok_nmk f 11)
    cases hf3 : f / 26 % 3 == 1 with
    | true =>
      obtain ⟨nl, nd, nlen, hk⟩ := ok_kin12 (d := 1) (f / 78)
      obtain ⟨t, z1, z2, ht⟩ := law_tree ns hlen nl (by omega) (by omega)
      cases hg : f / 2000 % 8 == 1 with
      | true =>
        obtain ⟨t2, y3, z3, z4, hl⟩ := lw_for (N := nl) (l := ns.map .int) (NV := (nl.map V.str).reverse.reverse) (f := f) (m := 12) 250 0 none t z2
        obtain ⟨rows, qs, due, F, s, y4, a1, a2, a3, a4, a5, a6, a7, a8, a9⟩ := law_end ns (f := f) (m := 12) nl nd t2 z4 (by omega) (by omega) (by omega) y3
        exact lw_12kl ns hf hm hn hf3 hk ht hg hl a1 a2 a3 a4 a5 a6 a7 a8 a9
      | false =>
        obtain ⟨rows, qs, due, F, s, y4, a1, a2, a3, a4, a5, a6, a7, a8, a9⟩ := law_end ns (f := f) (m := 12) nl nd t z2 (by omega) (by omega) (by omega) none
        exact lw_12ks ns hf hm hn hf3 hk ht hg a1 a2 a3 a4 a5 a6 a7 a8 a9
    | false =>
      have nd : ([nmk f 0, nmk f 1, nmk f 2, nmk f 3, nmk f 4, nmk f 5, nmk f 6, nmk f 7, nmk f 8, nmk f 9, nmk f 10, nmk f 11] : List Nm).Nodup := nmk_nodup f 12 (by decide)
      obtain ⟨t, z1, z2, ht⟩ := law_tree ns hlen [nmk f 0, nmk f 1, nmk f 2, nmk f 3, nmk f 4, nmk f 5, nmk f 6, nmk f 7, nmk f 8, nmk f 9, nmk f 10, nmk f 11] (by show 2 ≤ 12; decide) (by show 12 < 64; decide)
      cases hg : f / 2000 % 8 == 1 with
      | true =>
        obtain ⟨t2, y3, z3, z4, hl⟩ := lw_for (N := [nmk f 0, nmk f 1, nmk f 2, nmk f 3, nmk f 4, nmk f 5, nmk f 6, nmk f 7, nmk f 8, nmk f 9, nmk f 10, nmk f 11]) (l := ns.map .int) (NV := (([nmk f 0, nmk f 1, nmk f 2, nmk f 3, nmk f 4, nmk f 5, nmk f 6, nmk f 7, nmk f 8, nmk f 9, nmk f 10, nmk f 11] : List Nm).map V.str).reverse.reverse) (f := f) (m := 12) 250 0 none t z2
        obtain ⟨rows, qs, due, F, s, y4, a1, a2, a3, a4, a5, a6, a7, a8, a9⟩ := law_end ns (f := f) (m := 12) [nmk f 0, nmk f 1, nmk f 2, nmk f 3, nmk f 4, nmk f 5, nmk f 6, nmk f 7, nmk f 8, nmk f 9, nmk f 10, nmk f 11] nd t2 z4 (by omega) (by show 2 ≤ 12; decide) (by show 12 < 64; decide) y3
        exact lw_12nl ns hf hm hn hf3 ht hg hl a1 a2 a3 a4 a5 a6 a7 a8 a9
      | false =>
        obtain ⟨rows, qs, due, F, s, y4, a1, a2, a3, a4, a5, a6, a7, a8, a9⟩ := law_end ns (f := f) (m := 12) [nmk f 0, nmk f 1, nmk f 2, nmk f 3, nmk f 4, nmk f 5, nmk f 6, nmk f 7, nmk f 8, nmk f 9, nmk f 10, nmk f 11] nd t z2 (by omega) (by show 2 ≤ 12; decide) (by show 12 < 64; decide) none
        exact lw_12ns ns hf hm hn hf3 ht hg a1 a2 a3 a4 a5 a6 a7 a8 a9
end Mine
end

section
open PySem PySem.W PyProof.Rows
set_option Elab.async false
namespace Mine
set_option maxRecDepth 100000 in
set_option maxHeartbeats 8000000 in
open_top hd for PySem.Challenge.rw_uf010023_01
end Mine
end

section
open PySem PySem.W
set_option autoImplicit false
set_option maxRecDepth 100000
namespace Mine.L01
theorem c_top (P : Params) : isTop (Mine.hd.heap_39 P) = true := by kernel_rfl
theorem c_fn (P : Params) : (G.fn.all fun x => nsFind (topOf (Mine.hd.heap_39 P)) x.1 == some (.ref x.2) && keepIn (Mine.hd.heap_39 P) (.ref x.2)) = true := by kernel_rfl
theorem c_bn (P : Params) : (G.bn.all fun x => nsFind (topOf (Mine.hd.heap_39 P)) x == none && x != "__name__") = true := by kernel_rfl
theorem c_isi (P : Params) : (([.none, .bool, .int, .str, .tup, .list] : List Kd).all fun k => G.ty.all fun t => kitOne (Mine.hd.heap_39 P) k.v (.type t.n) == some (isiK k t)) = true := by kernel_rfl
theorem c_fd (P : Params) (a : Addr) (f : FD) (h : (a, f) ∈ G.fd) : FnAt (Mine.hd.heap_39 P) a f := by
  have h : (a, f) ∈ [(21, fd_parts), (28, fd_nodes), (35, fd_free), (42, fd__law_cell_at), (47, fd__law_kin_by), (54, fd__law_name_by), (61, fd__law_joined), (68, fd__law_tree_by), (73, fd__law_within), (80, fd__law_where), (87, fd__law_parts_right), (92, fd_law)] := h
  simp only [List.mem_cons, Prod.mk.injEq, List.not_mem_nil, or_false] at h
  rcases h with ⟨rfl, rfl⟩ | ⟨rfl, rfl⟩ | ⟨rfl, rfl⟩ | ⟨rfl, rfl⟩ | ⟨rfl, rfl⟩ | ⟨rfl, rfl⟩ | ⟨rfl, rfl⟩ | ⟨rfl, rfl⟩ | ⟨rfl, rfl⟩ | ⟨rfl, rfl⟩ | ⟨rfl, rfl⟩ | ⟨rfl, rfl⟩ <;> exact ⟨by kernel_rfl, by kernel_rfl⟩
theorem c_chk (P : Params) : GChk G (Mine.hd.heap_39 P) := ⟨c_top P, c_fn P, c_bn P, c_isi P, c_fd P⟩
theorem fin : PySem.Challenge.rw_uf010023_01.Holds :=
  Mine.hd (join G 92 3 rfl rfl (by kernel_rfl) (by decide) c_chk law_ok)
end Mine.L01
end
theorem PySem.Challenge.cw_uf010023_01_holds : PySem.Challenge.rw_uf010023_01.Holds :=
  Mine.L01.fin
