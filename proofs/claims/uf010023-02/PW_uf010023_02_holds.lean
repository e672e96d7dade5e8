import PyProof.Rows.All
import Wide.All
import OpenK.AllK
import KE.KIsAll
import KE.KRevIter
import KE.KSetAt
import KE.KTryOn
import OpenK.KItem
import OpenK.Peek
import PyProof.AutoIntOps
import PyProof.AutoListH
import PyProof.Cells
import PyProof.CompFree
import PyProof.DictKinds
import PyProof.DictRoads
import PyProof.DictStraight
import PyProof.EnumMake
import PyProof.EqLayable
import PyProof.ExcBaseAll.ValueError
import PyProof.ExcClass3
import PyProof.ListCopy
import PyProof.ListIndexNeg
import PyProof.ListOps
import PyProof.ListTruth
import PyProof.NeData
import PyProof.NoPylong
import PyProof.NsCount
import PyProof.P3Eq
import PyProof.P3In
import PyProof.P3Statements
import PyProof.PureInt
import PyProof.Rows.Catch
import PyProof.Rows.Chain
import PyProof.Rows.ExtendIn
import PyProof.Rows.Range3
import PyProof.Rows.RuleIs2
import PyProof.Rows.StrInSeq3
import PyProof.Rows.StrJoin2
import PyProof.Rows.StrTemp
import PyProof.Rows.TupAdd
import PyProof.Rows.TupMore
import PyProof.Rows.TupSub
import PyProof.RulesAs
import PyProof.RulesAssignMore
import PyProof.SliceList
import PyProof.SliceMore
import PyProof.SliceStr
import PyProof.SliceStr2
import PyProof.SliceSyntax
import PyProof.StationsW
import PyProof.StrBlock2
import PyProof.StrCalls2
import PyProof.StrLawsIn
import PyProof.StrOps
import PyProof.StrOps2
import PyProof.StrWalks
import PyProof.Truth
import PyProof.TupleIter
import PyProof.TupleKey
import PyProof.TupleOfSeq
import PyProof.TupleOps
import PyProof.WalksMore
import Wide.FinOn
import PySem.Challenge.RW_uf010023_02
set_option Elab.async false
section
open PySem
set_option autoImplicit false
set_option linter.unusedVariables false
namespace Mine

abbrev tupO (vs : Array Value) (n : Nat) : Obj := { cls := .type "tuple", data := .seq vs n }
abbrev lstO (vs : Array Value) (n : Nat) : Obj := { cls := .type "list", data := .seq vs n }

set_option genSizeOf false in
set_option genInjectivity false in
inductive V where
  | none
  | bool (b : Bool)
  | int (i : Int)
  | str (s : List Nat)
  | tup (l : List V)
  | lst (l : List V)

set_option genSizeOf false in
set_option genInjectivity false in
inductive O where
  | val (v : V)
  | own (r : List V)
noncomputable def O.frz (o : O) : V := O.rec (fun v => v) (fun r => .lst r.reverse) o
abbrev Loc := List (Option O)
abbrev WS := Addr → Prop

noncomputable def VR (W : WS) (h : Heap) : V → Value → Prop :=
  @V.rec (fun _ => Value → Prop) (fun _ => List Value → Prop)
    (fun v' => v' = .none) (fun b v' => v' = .bool b) (fun i v' => ∃ t, v' = .int i t)
    (fun s v' => ∃ t, v' = .str ⟨s.toArray⟩ t ∧ PyData.strOk ⟨s.toArray⟩ = true ∧ s.length ≤ sizeLine)
    (fun l ih v' => ∃ a vs n, v' = .ref a ∧ W a ∧ h.get? a = some (tupO vs n) ∧ l.length ≤ sizeLine ∧ ih vs.toList)
    (fun l ih v' => ∃ a vs n, v' = .ref a ∧ W a ∧ h.get? a = some (lstO vs n) ∧ l.length ≤ sizeLine ∧ ih vs.toList)
    (fun l' => l' = []) (fun v l iv il l' => ∃ v' r, l' = v' :: r ∧ iv v' ∧ il r)
noncomputable def VRs (W : WS) (h : Heap) : List V → List Value → Prop :=
  @V.rec_1 (fun _ => Value → Prop) (fun _ => List Value → Prop)
    (fun v' => v' = .none) (fun b v' => v' = .bool b) (fun i v' => ∃ t, v' = .int i t)
    (fun s v' => ∃ t, v' = .str ⟨s.toArray⟩ t ∧ PyData.strOk ⟨s.toArray⟩ = true ∧ s.length ≤ sizeLine)
    (fun l ih v' => ∃ a vs n, v' = .ref a ∧ W a ∧ h.get? a = some (tupO vs n) ∧ l.length ≤ sizeLine ∧ ih vs.toList)
    (fun l ih v' => ∃ a vs n, v' = .ref a ∧ W a ∧ h.get? a = some (lstO vs n) ∧ l.length ≤ sizeLine ∧ ih vs.toList)
    (fun l' => l' = []) (fun v l iv il l' => ∃ v' r, l' = v' :: r ∧ iv v' ∧ il r)

structure Ag (W : WS) (h : Heap) (W' : WS) (h' : Heap) : Prop where
  w : ∀ a, W a → W' a
  k : ∀ a, W a → h'.get? a = h.get? a

section
variable {W W' : WS} {h h' : Heap}
theorem VRs.inv {v : V} {l : List V} {l' : List Value} (r : VRs W h (v :: l) l') : ∃ v' r', l' = v' :: r' ∧ VR W h v v' ∧ VRs W h l r' := r
theorem VRs.cons {v : V} {l : List V} {v' : Value} {l' : List Value} (x : VR W h v v') (r : VRs W h l l') : VRs W h (v :: l) (v' :: l') := ⟨v', l', rfl, x, r⟩
theorem VR.tup {l : List V} {v' : Value} (r : VR W h (.tup l) v') : ∃ a vs n, v' = .ref a ∧ W a ∧ h.get? a = some (tupO vs n) ∧ l.length ≤ sizeLine ∧ VRs W h l vs.toList := r
theorem VR.lst {l : List V} {v' : Value} (r : VR W h (.lst l) v') : ∃ a vs n, v' = .ref a ∧ W a ∧ h.get? a = some (lstO vs n) ∧ l.length ≤ sizeLine ∧ VRs W h l vs.toList := r
theorem VR.ag (g : Ag W h W' h') {v : V} {v' : Value} (r : VR W h v v') : VR W' h' v v' :=
  V.rec (motive_1 := fun v => ∀ v', VR W h v v' → VR W' h' v v') (motive_2 := fun l => ∀ l', VRs W h l l' → VRs W' h' l l')
    (fun _ r => r) (fun _ _ r => r) (fun _ _ r => r) (fun _ _ r => r)
    (fun _ ih _ r => let ⟨a, vs, n, e, w, x, y, z⟩ := VR.tup r; ⟨a, vs, n, e, g.w a w, (g.k a w).trans x, y, ih _ z⟩)
    (fun _ ih _ r => let ⟨a, vs, n, e, w, x, y, z⟩ := VR.lst r; ⟨a, vs, n, e, g.w a w, (g.k a w).trans x, y, ih _ z⟩)
    (fun _ r => r) (fun _ _ iv il _ r => let ⟨v', r, e, x, y⟩ := VRs.inv r; ⟨v', r, e, iv _ x, il _ y⟩) v v' r
theorem VRs.ag (g : Ag W h W' h') : ∀ {l : List V} {l' : List Value}, VRs W h l l' → VRs W' h' l l'
  | [], _, r => r
  | _ :: _, _, r => let ⟨v', r, e, x, y⟩ := VRs.inv r; ⟨v', r, e, VR.ag g x, VRs.ag g y⟩
theorem VRs.length : ∀ {l : List V} {l' : List Value}, VRs W h l l' → l'.length = l.length
  | [], _, e => congrArg List.length e
  | _ :: _, _, r => let ⟨v', r, e, x, y⟩ := VRs.inv r; e ▸ congrArg (· + 1) y.length
theorem VRs.size {l : List V} {vs : Array Value} (r : VRs W h l vs.toList) : vs.size = l.length := by rw [← r.length, Array.length_toList]
theorem VRs.append : ∀ {l m : List V} {l' m' : List Value}, VRs W h l l' → VRs W h m m' → VRs W h (l ++ m) (l' ++ m')
  | [], _, _, _, e, hm => by cases e; exact hm
  | _ :: _, _, _, _, r, hm => by obtain ⟨v', r, rfl, x, y⟩ := VRs.inv r; exact .cons x (y.append hm)
theorem VRs.snoc {l : List V} {l' : List Value} {v : V} {v' : Value} (r : VRs W h l l') (x : VR W h v v') : VRs W h (l ++ [v]) (l' ++ [v']) := r.append ⟨v', [], rfl, x, rfl⟩
theorem VRs.get : ∀ {l : List V} {l' : List Value}, VRs W h l l' → ∀ {i : Nat} {v : V}, l[i]? = some v → ∃ v', l'[i]? = some v' ∧ VR W h v v'
  | [], _, _, _, _, e => nomatch e
  | _ :: _, _, r, 0, _, e => by obtain ⟨v', r, rfl, x, y⟩ := VRs.inv r; cases e; exact ⟨_, rfl, x⟩
  | _ :: _, _, r, i + 1, _, e => by obtain ⟨v', r, rfl, x, y⟩ := VRs.inv r; exact y.get (i := i) e
theorem VRs.set : ∀ {l : List V} {l' : List Value}, VRs W h l l' → ∀ (i : Nat) {v : V} {v' : Value}, VR W h v v' → VRs W h (l.set i v) (l'.set i v')
  | [], _, e, _, _, _, _ => by cases e; exact rfl
  | _ :: _, _, r, 0, _, w, hw => by obtain ⟨v', r, rfl, x, y⟩ := VRs.inv r; exact .cons hw y
  | _ :: _, _, r, i + 1, _, w, hw => by obtain ⟨v', r, rfl, x, y⟩ := VRs.inv r; exact .cons x (y.set i hw)
theorem VRs.take : ∀ {l : List V} {l' : List Value}, VRs W h l l' → ∀ (i : Nat), VRs W h (l.take i) (l'.take i)
  | [], _, e, i => by cases e; rw [List.take_nil, List.take_nil]; exact rfl
  | _ :: _, _, _, 0 => rfl
  | _ :: _, _, r, i + 1 => by obtain ⟨v', r, rfl, x, y⟩ := VRs.inv r; exact .cons x (y.take i)
theorem VRs.drop : ∀ {l : List V} {l' : List Value}, VRs W h l l' → ∀ (i : Nat), VRs W h (l.drop i) (l'.drop i)
  | [], _, e, i => by cases e; rw [List.drop_nil, List.drop_nil]; exact rfl
  | _ :: _, _, r, 0 => r
  | _ :: _, _, r, i + 1 => by obtain ⟨v', r, rfl, x, y⟩ := VRs.inv r; exact y.drop i
end

theorem Ag.refl (W : WS) (h : Heap) : Ag W h W h := ⟨fun _ x => x, fun _ _ => rfl⟩
theorem Ag.trans {W W' W'' : WS} {h h' h'' : Heap} (x : Ag W h W' h') (y : Ag W' h' W'' h'') : Ag W h W'' h'' := ⟨fun a q => y.w a (x.w a q), fun a q => (y.k a (x.w a q)).trans (x.k a q)⟩

abbrev Tbl := List (Str × Nat)
structure FI where
  names : List (Str × NameKind)
  tbl : Tbl

structure Cx where
  K : PySem.W.Frag
  h : Heap
  os : OsState
  prog : Program
  w : World
  mg : Str → Option Value
  mb : Str → Option Value
noncomputable abbrev Cx.M (C : Cx) : Model := model C.prog C.w

structure FC where
  C : Cx
  A : Around
  env : Env
  fi : FI
  pin : Addr → Option Obj
  W0 : WS
  cm : Bool

def Mut (X : FC) (φ : Nat → List Addr) (a : Addr) : Prop := a = X.env.locals ∨ (X.cm = true ∧ ∃ x, X.env.cells.lookup x = some a) ∨ ∃ i, a ∈ φ i

def Val (env : Env) (h : Heap) (x : Str) (v : Value) : Prop :=
  (env.kindOf x = some .local ∧ ∃ m, h.Ns env.locals m ∧ m x = some v) ∨
  ((env.kindOf x = some .cell ∨ env.kindOf x = some .free) ∧ ∃ c, env.cells.lookup x = some c ∧ h.IsCell c (some v))

def OwnAt (W : WS) (h : Heap) (a : Addr) (r : List V) : Prop := ∃ vs n, h.get? a = some (lstO vs n) ∧ VRs W h r.reverse vs.toList ∧ r.length ≤ sizeLine
noncomputable def OR (W : WS) (h : Heap) (p : List Addr) (o : O) (v' : Value) : Prop :=
  O.rec (fun v => p = [] ∧ VR W h v v') (fun r => ∃ a, p = [a] ∧ v' = .ref a ∧ OwnAt W h a r) o

structure F0 (X : FC) (W : WS) (φ : Nat → List Addr) (h : Heap) : Prop where
  pin : ∀ a o, X.pin a = some o → h.get? a = some o
  mu : ∀ a, Mut X φ a → X.pin a = none ∧ ¬ W a
  wf : ∀ a, W a → ∃ o, h.get? a = some o
  w0 : ∀ a o, X.pin a = some o → W a → X.W0 a
  dis : ∀ i j a, a ∈ φ i → a ∈ φ j → i = j
  ns : ∃ o es ep, h.get? X.env.locals = some o ∧ o.data = .dict es ep ∧ StrKeys es
  cells : ∀ x c, X.env.cells.lookup x = some c → ∃ o v, h.get? c = some o ∧ o.data = .cell v
def LR (X : FC) (W : WS) (φ : Nat → List Addr) (h : Heap) (ρ : Loc) : Prop :=
  ∀ x i, X.fi.tbl.lookup x = some i → ∀ o, ρ[i]? = some (some o) → X.env.kindOf x ≠ none → ∃ v', Val X.env h x v' ∧ OR W h (φ i) o v'
structure At (X : FC) (W : WS) (φ : Nat → List Addr) (s : Shared) (ρ : Loc) : Prop where
  gens : s.gens = #[]
  os : s.os = X.C.os
  f : F0 X W φ s.heap
  lr : LR X W φ s.heap ρ
  ow : ∀ i a, a ∈ φ i → ∃ vs n, s.heap.get? a = some (lstO vs n)

structure Grow (W : WS) (h : Heap) (W' : WS) (h' : Heap) : Prop where
  k : ∀ a o, h.get? a = some o → h'.get? a = some o
  w : ∀ a, W a → W' a
  wf : ∀ a, W' a → ∃ o, h'.get? a = some o
  nw : ∀ a o, h.get? a = some o → W' a → W a

section
variable {X : FC} {W W' W'' : WS} {φ : Nat → List Addr} {h h' h'' : Heap} {s : Shared} {ρ : Loc}
theorem Grow.ag (g : Grow W h W' h') (wf : ∀ a, W a → ∃ o, h.get? a = some o) : Ag W h W' h' :=
  ⟨g.w, fun a q => (wf a q).elim fun o e => (g.k a o e).trans e.symm⟩
theorem Val.grow {env : Env} {x : Str} {v : Value} (k : ∀ a o, h.get? a = some o → h'.get? a = some o) (r : Val env h x v) : Val env h' x v := by
  obtain ⟨q, m, ⟨o, es, ep, e, z⟩, hm⟩ | ⟨q, c, hc, o, e, z⟩ := r
  · exact .inl ⟨q, m, ⟨o, es, ep, k _ _ e, z⟩, hm⟩
  · exact .inr ⟨q, c, hc, o, k _ _ e, z⟩
theorem OwnAt.ag {a : Addr} {r : List V} (g : Ag W h W' h') (e : h'.get? a = h.get? a) (x : OwnAt W h a r) : OwnAt W' h' a r := by
  obtain ⟨vs, n, y, z, t⟩ := x; exact ⟨vs, n, e.trans y, z.ag g, t⟩
theorem OR.ag {p : List Addr} {o : O} {v' : Value} (g : Ag W h W' h') (e : ∀ a, a ∈ p → h'.get? a = h.get? a) (x : OR W h p o v') : OR W' h' p o v' := by
  cases o with
  | val v => exact ⟨x.1, VR.ag g x.2⟩
  | own r => obtain ⟨a, rfl, y, z⟩ := x; exact ⟨a, rfl, y, OwnAt.ag g (e a List.mem_cons_self) z⟩
theorem F0.grow (F : F0 X W φ h) (ow : ∀ i a, a ∈ φ i → ∃ vs n, h.get? a = some (lstO vs n)) (g : Grow W h W' h') : F0 X W' φ h' where
  pin := fun a o e => g.k a o (F.pin a o e)
  mu := fun a q => ⟨(F.mu a q).1, fun w => (F.mu a q).2 (by
      rcases q with q | ⟨q1, x, q⟩ | ⟨i, q⟩
      · obtain ⟨o, _, _, e, _⟩ := F.ns; exact g.nw a o (q ▸ e) w
      · obtain ⟨o, _, e, _⟩ := F.cells x a q; exact g.nw a o e w
      · obtain ⟨_, _, e⟩ := ow i a q; exact g.nw a _ e w)⟩
  wf := g.wf
  w0 := fun a o e q => F.w0 a o e (g.nw a o (F.pin a o e) q)
  dis := F.dis
  ns := by obtain ⟨o, es, ep, e, z⟩ := F.ns; exact ⟨o, es, ep, g.k _ _ e, z⟩
  cells := fun x c hc => by obtain ⟨o, v, e, z⟩ := F.cells x c hc; exact ⟨o, v, g.k _ _ e, z⟩
theorem At.grow (F : At X W φ s ρ) {t : Nat} (g : Grow W s.heap W' h') : At X W' φ { s with heap := h', toks := t } ρ where
  gens := F.gens
  os := F.os
  f := F.f.grow F.ow g
  lr := fun x i hx o ho hk => by
    obtain ⟨v', a, b⟩ := F.lr x i hx o ho hk
    exact ⟨v', a.grow g.k, b.ag (g.ag F.f.wf) fun a q => by obtain ⟨_, _, e⟩ := F.ow i a q; exact (g.k a _ e).trans e.symm⟩
  ow := fun i a q => by obtain ⟨vs, n, e⟩ := F.ow i a q; exact ⟨vs, n, g.k _ _ e⟩
theorem At.toks (F : At X W φ s ρ) (t : Nat) : At X W φ { s with toks := t } ρ := ⟨F.gens, F.os, F.f, F.lr, F.ow⟩

theorem F0.turn (F : F0 X W φ h) {a : Addr} (hm : Mut X φ a) (hs : Heap.SameBut a h h') : Ag W h W h' ∧ (∀ b o, X.pin b = some o → h'.get? b = some o) ∧ (∀ b, W b → ∃ o, h'.get? b = some o) := by
  have hk : ∀ b, b ≠ a → h'.get? b = h.get? b := hs.2
  have wa := (F.mu a hm).2
  have ag : Ag W h W h' := ⟨fun _ q => q, fun b q => hk b fun e => wa (e ▸ q)⟩
  refine ⟨ag, fun b o e => (hk b fun q => ?_).trans (F.pin b o e), fun b q => ?_⟩
  · have := (F.mu a hm).1; rw [← q, e] at this; cases this
  · obtain ⟨o, e⟩ := F.wf b q; exact ⟨o, (ag.k b q).trans e⟩
end
end Mine
end

section
open PySem
set_option autoImplicit false
set_option linter.unusedVariables false
namespace Mine

def RO (X : FC) (W : WS) (φ : Nat → List Addr) (h : Heap) (o : O) (v' : Value) : Prop := ∃ p, OR W h p o v' ∧ ∀ a, a ∈ p → ¬ W a ∧ ¬ Mut X φ a ∧ X.pin a = none

def upd (φ : Nat → List Addr) (i : Nat) (p : List Addr) : Nat → List Addr := fun j => if j = i then p else φ j
theorem upd_same (φ : Nat → List Addr) (i : Nat) (p : List Addr) : upd φ i p i = p := if_pos rfl
theorem upd_ne (φ : Nat → List Addr) {i j : Nat} (p : List Addr) (h : j ≠ i) : upd φ i p j = φ j := if_neg h

theorem set_get {ρ : Loc} {i j : Nat} {o o' : O} (e : (ρ.set i (some o))[j]? = some (some o')) : (j = i ∧ o' = o) ∨ (j ≠ i ∧ ρ[j]? = some (some o')) := by
  by_cases q : j = i
  · subst q
    rw [List.getElem?_set] at e
    split at e
    · split at e
      · cases e; exact .inl ⟨rfl, rfl⟩
      · cases e
    · rename_i q; exact absurd rfl q
  · exact .inr ⟨q, by rwa [List.getElem?_set_ne (Ne.symm q)] at e⟩

section
variable {X : FC} {W W' : WS} {φ : Nat → List Addr} {h h' : Heap} {s : Shared} {ρ : Loc}

theorem RO.val {v : V} {v' : Value} (r : VR W h v v') : RO X W φ h (.val v) v' := ⟨[], ⟨rfl, r⟩, fun _ q => nomatch q⟩
theorem Ag.more (W : WS) (h : Heap) (a : Addr) : Ag W h (fun b => W b ∨ b = a) h := ⟨fun _ q => .inl q, fun _ _ => rfl⟩
theorem OwnAt.frz {a : Addr} {r : List V} (x : OwnAt W h a r) : VR (fun b => W b ∨ b = a) h (.lst r.reverse) (.ref a) := by
  obtain ⟨vs, n, y, z, t⟩ := x; exact ⟨a, vs, n, rfl, .inr rfl, y, by rwa [List.length_reverse], VRs.ag (.more W h a) z⟩
theorem At.fix (F : At X W φ s ρ) {a : Addr} (hp : X.pin a = none) (hm : ¬ Mut X φ a) (he : ∃ o, s.heap.get? a = some o) : At X (fun b => W b ∨ b = a) φ s ρ where
  gens := F.gens
  os := F.os
  f := { F.f with
    mu := fun b q => ⟨(F.f.mu b q).1, fun w => w.elim (F.f.mu b q).2 fun e => hm (e ▸ q)⟩
    wf := fun b q => q.elim (F.f.wf b) fun e => e ▸ he
    w0 := fun b o e q => q.elim (F.f.w0 b o e) fun z => by rw [z, hp] at e; cases e }
  lr := fun x i hx o ho hk => by obtain ⟨v', a, b⟩ := F.lr x i hx o ho hk; exact ⟨v', a, b.ag (.more ..) fun _ _ => rfl⟩
  ow := F.ow
theorem At.frz (F : At X W φ s ρ) {o : O} {v' : Value} (r : RO X W φ s.heap o v') : ∃ W', At X W' φ s ρ ∧ Ag W s.heap W' s.heap ∧ VR W' s.heap o.frz v' := by
  obtain ⟨p, x, y⟩ := r
  cases o with
  | val v => exact ⟨W, F, .refl .., x.2⟩
  | own r =>
    obtain ⟨a, rfl, rfl, z⟩ := x
    obtain ⟨_, hm, hp⟩ := y a List.mem_cons_self
    refine ⟨_, F.fix hp hm ?_, .more W s.heap a, z.frz⟩
    obtain ⟨vs, n, e, _⟩ := z; exact ⟨_, e⟩
theorem Mut.less {i : Nat} {a : Addr} (q : Mut X (upd φ i []) a) : Mut X φ a := by
  rcases q with q | q | ⟨j, q⟩
  · exact .inl q
  · exact .inr (.inl q)
  · refine .inr (.inr ⟨j, ?_⟩)
    unfold upd at q; split at q
    · cases q
    · exact q
theorem At.drop (F : At X W φ s ρ) (i : Nat) {ρ' : Loc} (hρ : ∀ j o, j ≠ i → ρ'[j]? = some (some o) → ρ[j]? = some (some o)) (hi : ∀ x, X.fi.tbl.lookup x = some i → ∀ o, ρ'[i]? = some (some o) → X.env.kindOf x ≠ none → ∃ v', Val X.env s.heap x v' ∧ OR W s.heap [] o v') : At X W (upd φ i []) s ρ' where
  gens := F.gens
  os := F.os
  f := { F.f with
    mu := fun b q => F.f.mu b q.less
    dis := fun j k a p q => by
      by_cases ej : j = i
      · rw [ej, upd_same] at p; cases p
      · by_cases ek : k = i
        · rw [ek, upd_same] at q; cases q
        · rw [upd_ne _ _ ej] at p; rw [upd_ne _ _ ek] at q; exact F.f.dis j k a p q }
  lr := fun x j hx o ho hk => by
    by_cases ej : j = i
    · subst ej; rw [upd_same]; exact hi x hx o ho hk
    · rw [upd_ne _ _ ej]; exact F.lr x j hx o (hρ j o ej ho) hk
  ow := fun j a q => by
    by_cases ej : j = i
    · rw [ej, upd_same] at q; cases q
    · rw [upd_ne _ _ ej] at q; exact F.ow j a q

theorem F0.notOwn (F : F0 X W φ h) {a : Addr} {vs : Array Value} {n : Nat} (e : h.get? a = some (lstO vs n)) : a ≠ X.env.locals ∧ ∀ x, X.env.cells.lookup x ≠ some a := by
  refine ⟨fun q => ?_, fun x q => ?_⟩
  · obtain ⟨o, _, _, z, t, _⟩ := F.ns; rw [← q, e] at z; cases z; cases t
  · obtain ⟨o, _, z, t⟩ := F.cells x a q; rw [e] at z; cases z; cases t

theorem At.frzVar (F : At X W φ s ρ) {x : Str} {i : Nat} {r : List V} {v' : Value} (ti : ∀ y, X.fi.tbl.lookup y = some i → y = x) (hv : Val X.env s.heap x v') (z : OR W s.heap (φ i) (.own r) v') :
    ∃ W', At X W' (upd φ i []) s (ρ.set i (some (.val (.lst r.reverse)))) ∧ Ag W s.heap W' s.heap ∧ VR W' s.heap (.lst r.reverse) v' := by
  obtain ⟨a, hp, rfl, z⟩ := z
  have hmem : a ∈ φ i := hp ▸ List.mem_cons_self
  have hmu := F.f.mu a (.inr (.inr ⟨i, hmem⟩))
  obtain ⟨vs, n, he, _⟩ := id z
  have hno := F.f.notOwn he
  have F1 : At X W (upd φ i []) s (ρ.set i none) := F.drop i (fun j o q w => by rwa [List.getElem?_set_ne (Ne.symm q)] at w) fun y hy o w => by
    rw [List.getElem?_set] at w
    split at w
    · split at w <;> cases w
    · rename_i q; exact absurd rfl q
  have F2 := F1.fix hmu.1 (fun q => by
    rcases q with q | ⟨_, y, q⟩ | ⟨j, q⟩
    · exact hno.1 q
    · exact hno.2 y q
    · by_cases ej : j = i
      · rw [ej, upd_same] at q; cases q
      · rw [upd_ne _ _ ej] at q; exact ej (F.f.dis j i a q hmem)) ⟨_, he⟩
  refine ⟨_, ⟨F2.gens, F2.os, F2.f, fun y j hy o w hk => ?_, F2.ow⟩, .more W s.heap a, z.frz⟩
  rcases set_get w with ⟨rfl, rfl⟩ | ⟨q, w⟩
  · cases ti y hy; exact ⟨_, hv, by rw [upd_same]; exact ⟨rfl, z.frz⟩⟩
  · exact F2.lr y j hy o (by rwa [List.getElem?_set_ne (Ne.symm q)]) hk

theorem At.store (F : At X W φ s ρ) {x : Str} {i : Nat} {o : O} {v' : Value} {a : Addr} {t : Nat} (ti : ∀ y, X.fi.tbl.lookup y = some i → y = x) (hx : X.fi.tbl.lookup x = some i) {p : List Addr} (r : OR W s.heap p o v') (hp : ∀ a, a ∈ p → ¬ W a ∧ ¬ Mut X φ a ∧ X.pin a = none)
    (ha : a = X.env.locals ∨ (X.cm = true ∧ ∃ y, X.env.cells.lookup y = some a)) (hs : Heap.SameBut a s.heap h') (hv : Val X.env h' x v') (ho : ∀ y w, y ≠ x → Val X.env s.heap y w → Val X.env h' y w)
    (ns : ∃ o es ep, h'.get? X.env.locals = some o ∧ o.data = .dict es ep ∧ StrKeys es) (cells : ∀ x c, X.env.cells.lookup x = some c → ∃ o v, h'.get? c = some o ∧ o.data = .cell v) :
    At X W (upd φ i p) { s with heap := h', toks := t } (ρ.set i (some o)) ∧ Ag W s.heap W h' := by
  have hm : Mut X φ a := ha.elim .inl fun q => .inr (.inl q)
  obtain ⟨ag, pin, wf⟩ := F.f.turn hm hs
  have hl : ∀ b vs n, s.heap.get? b = some (lstO vs n) → h'.get? b = s.heap.get? b := fun b vs n e => hs.2 b fun q => by
    have := F.f.notOwn e
    rcases ha with z | ⟨_, y, z⟩
    · exact this.1 (q.trans z)
    · exact this.2 y (q ▸ z)
  have hl' : ∀ b, b ∈ p → ∃ vs n, s.heap.get? b = some (lstO vs n) := fun b q => by
    cases o with
    | val v => rw [r.1] at q; cases q
    | own r' => obtain ⟨c, rfl, _, vs, n, z, _⟩ := r; cases List.mem_singleton.mp q; exact ⟨vs, n, z⟩
  have case : ∀ j b, b ∈ upd φ i p j → (j = i ∧ b ∈ p) ∨ (j ≠ i ∧ b ∈ φ j) := fun j b q => by
    by_cases ej : j = i
    · rw [ej, upd_same] at q; exact .inl ⟨ej, q⟩
    · rw [upd_ne _ _ ej] at q; exact .inr ⟨ej, q⟩
  have ow : ∀ j b, b ∈ upd φ i p j → ∃ vs n, s.heap.get? b = some (lstO vs n) := fun j b q => (case j b q).elim (fun z => hl' b z.2) fun z => F.ow j b z.2
  refine ⟨⟨F.gens, F.os, ⟨pin, fun b q => ?_, wf, F.f.w0, fun j k b q q' => ?_, ns, cells⟩, fun y j hy o' w hk => ?_, fun j b q => ?_⟩, ag⟩
  · rcases q with q | q | ⟨j, q⟩
    · exact F.f.mu b (.inl q)
    · exact F.f.mu b (.inr (.inl q))
    · rcases case j b q with ⟨_, q⟩ | ⟨_, q⟩
      · exact ⟨(hp b q).2.2, (hp b q).1⟩
      · exact F.f.mu b (.inr (.inr ⟨j, q⟩))
  · rcases case j b q with ⟨e, q⟩ | ⟨e, q⟩ <;> rcases case k b q' with ⟨e', q'⟩ | ⟨e', q'⟩
    · exact e.trans e'.symm
    · exact absurd (.inr (.inr ⟨k, q'⟩)) (hp b q).2.1
    · exact absurd (.inr (.inr ⟨j, q⟩)) (hp b q').2.1
    · exact F.f.dis j k b q q'
  · rcases set_get w with ⟨rfl, rfl⟩ | ⟨q, w⟩
    · cases ti y hy
      refine ⟨v', hv, ?_⟩
      rw [upd_same]
      exact r.ag ag fun b q => by obtain ⟨_, _, e⟩ := hl' b q; exact hl b _ _ e
    · obtain ⟨w', b1, b2⟩ := F.lr y j hy o' w hk
      refine ⟨w', ho y w' (fun e => q ?_) b1, ?_⟩
      · rw [e, hx] at hy; exact (Option.some.inj hy).symm
      · rw [upd_ne _ _ q]
        exact b2.ag ag fun b z => by obtain ⟨_, _, e⟩ := F.ow j b z; exact hl b _ _ e
  · obtain ⟨vs, n, e⟩ := ow j b q; exact ⟨vs, n, (hl b vs n e).trans e⟩

theorem At.turn (F : At X W φ s ρ) {x : Str} {i : Nat} {a : Addr} {t : Nat} {r : List V} {vs : Array Value} {n : Nat} (ti : ∀ y, X.fi.tbl.lookup y = some i → y = x) (hi : φ i = [a]) (hs : Heap.SameBut a s.heap h') (hv : Val X.env s.heap x (.ref a))
    (he : h'.get? a = some (lstO vs n)) (hr : VRs W s.heap r.reverse vs.toList) (hz : r.length ≤ sizeLine) : At X W φ { s with heap := h', toks := t } (ρ.set i (some (.own r))) ∧ Ag W s.heap W h' := by
  have hmem : a ∈ φ i := hi ▸ List.mem_cons_self
  obtain ⟨ag, pin, wf⟩ := F.f.turn (.inr (.inr ⟨i, hmem⟩)) hs
  obtain ⟨vs0, n0, he0⟩ := F.ow i a hmem
  have hno := F.f.notOwn he0
  have hL : h'.get? X.env.locals = s.heap.get? X.env.locals := hs.2 _ (Ne.symm hno.1)
  have hC : ∀ y c, X.env.cells.lookup y = some c → h'.get? c = s.heap.get? c := fun y c q => hs.2 c fun e => hno.2 y (e ▸ q)
  have val : ∀ y w, Val X.env s.heap y w → Val X.env h' y w := fun y w q => by
    obtain ⟨q, m, ⟨o, es, ep, e, z⟩, hm⟩ | ⟨q, c, hc, o, e, z⟩ := q
    · exact .inl ⟨q, m, ⟨o, es, ep, hL.trans e, z⟩, hm⟩
    · exact .inr ⟨q, c, hc, o, (hC y c hc).trans e, z⟩
  refine ⟨⟨F.gens, F.os, { F.f with pin := pin, wf := wf, ns := ?_, cells := fun y c q => ?_ }, fun y j hy o w hk => ?_, fun j b q => ?_⟩, ag⟩
  · obtain ⟨o, es, ep, e, z⟩ := F.f.ns; exact ⟨o, es, ep, hL.trans e, z⟩
  · obtain ⟨o, v, e, z⟩ := F.f.cells y c q; exact ⟨o, v, (hC y c q).trans e, z⟩
  · rcases set_get w with ⟨rfl, rfl⟩ | ⟨q, w⟩
    · cases ti y hy
      exact ⟨_, val _ _ hv, a, hi, rfl, vs, n, he, hr.ag ag, hz⟩
    · obtain ⟨w', b1, b2⟩ := F.lr y j hy o w hk
      exact ⟨w', val _ _ b1, b2.ag ag fun b z => hs.2 b fun e => q (F.f.dis j i a (e ▸ z) hmem)⟩
  · by_cases e : b = a
    · subst e; exact ⟨vs, n, he⟩
    · obtain ⟨vs, n, z⟩ := F.ow j b q; exact ⟨vs, n, (hs.2 b e).trans z⟩
end
end Mine
end

section
open PySem
set_option autoImplicit false
set_option linter.unusedVariables false
namespace Mine
open PySem.W (Frag kitOne keepIn Looks)

inductive Ty | tuple | str | int | bool | list deriving DecidableEq
inductive Kd | none | bool | int | str | tup | list deriving DecidableEq
noncomputable def Kd.v (k : Kd) : Value := .type (Kd.rec "NoneType" "bool" "int" "str" "tuple" "list" k)
noncomputable def Ty.n (t : Ty) : String := Ty.rec "tuple" "str" "int" "bool" "list" t
noncomputable def isiK (k : Kd) (t : Ty) : Bool := Kd.rec false (Ty.rec false false true true false t) (Ty.rec false false true false false t) (Ty.rec false true false false false t) (Ty.rec true false false false false t) (Ty.rec false false false false true t) k

structure FD where
  ps : List Str
  fi : FI
  st : List Stmt
structure Gl where
  fn : List (Str × Addr)
  fd : List (Addr × FD)
  bn : List Str
  ty : List Ty
  mo : Cx → Prop

def deep : Nat := 2000
structure FnOk (C : Cx) (a : Addr) (f : FD) (o : Obj) (fd : FuncData) : Prop where
  at_ : C.h.get? a = some o
  dat : o.data = .func fd
  body : fd.body = .stmts f.st
  clo : fd.closure = []
  gl : fd.globals = mainGlobals
  bi : fd.builtins = builtinsNs
  co : fd.scope.isCoroutine = false
  gen : fd.scope.isGenerator = false
  kind : fd.scope.kind = .function
  rec_ : C.h.CodeRec fd.code fd.qualname
  bind : ∀ vals : List Value, vals.length = f.ps.length → bindArgs fd ⟨vals, []⟩ = pure (f.ps.zip vals)
  nodup : f.ps.Nodup
  names : fd.scope.names = f.fi.names
  own : ∀ p, p ∈ f.ps → f.fi.names.lookup p = some .local ∨ f.fi.names.lookup p = some .cell
  free : ∀ x, x ∈ f.fi.names → x.2 ≠ .free
  at0 : ∀ i p, f.ps[i]? = some p → f.fi.tbl.lookup p = some i
  inj : ∀ y z j, f.fi.tbl.lookup y = some j → f.fi.tbl.lookup z = some j → y = z

structure GOk (G : Gl) (C : Cx) : Prop where
  X : C.K.In C.h
  g : C.h.Ns mainGlobals C.mg
  b : C.h.Ns builtinsNs C.mb
  bi : ∀ x : Str, x ≠ "__name__" → C.mb x = bootBuiltins x
  nolimit : C.h.NoLimit
  isi : ∀ k t, t ∈ G.ty → kitOne C.K k.v (.type t.n) = some (isiK k t)
  bn : ∀ x, x ∈ G.bn → C.mg x = none ∧ x ≠ "__name__"
  fn : ∀ x a, G.fn.lookup x = some a → C.mg x = some (.ref a) ∧ keepIn C.K (.ref a) = true
  fd : ∀ a f, G.fd.lookup a = some f → ∃ o fd, FnOk C a f o fd
  mo : G.mo C

structure FS (G : Gl) (d : Nat) (X : FC) : Prop where
  g : GOk G X.C
  base : ∀ a o, X.C.h.get? a = some o → X.pin a = some o
  hd : X.A.handled = none
  dp : X.A.depth + 2 * d + 10 ≤ recursionLimit
  un : X.A.units + 20 * d + deep + 100 < cLine
  fn : X.env.scope.kind = .function
  gl : X.env.globals = mainGlobals
  bi : X.env.builtins = builtinsNs
  nm : X.env.scope.names = X.fi.names
  cel : ∀ x, X.fi.names.lookup x = some .cell ∨ X.fi.names.lookup x = some .free → ∃ c, X.env.cells.lookup x = some c
  inj : ∀ x y c, X.env.cells.lookup x = some c → X.env.cells.lookup y = some c → x = y
  ti : ∀ y z j, X.fi.tbl.lookup y = some j → X.fi.tbl.lookup z = some j → y = z

def FI.isVar (fi : FI) (x : Str) (i : Nat) : Bool := fi.tbl.lookup x == some i && (fi.names.lookup x == some .local || fi.names.lookup x == some .cell || fi.names.lookup x == some .free) && x != "__debug__" && x != "__classdict__"
def FI.isOwn (fi : FI) (x : Str) (i : Nat) : Bool := fi.tbl.lookup x == some i && (fi.names.lookup x == some .local || fi.names.lookup x == some .cell)
def FI.isGlob (fi : FI) (x : Str) : Bool := fi.names.lookup x == some .globalImplicit && x != "__debug__"
def isBi (G : Gl) (fi : FI) (x : Str) : Bool := fi.isGlob x && G.bn.contains x

section
variable {G : Gl} {d : Nat} {X : FC} {W : WS} {φ : Nat → List Addr} {s : Shared} {ρ : Loc} {E : Value → Shared → Prop}

theorem FS.kind (S : FS G d X) (x : Str) : X.env.kindOf x = X.fi.names.lookup x := by unfold Env.kindOf; rw [S.nm]
theorem At.keep (F : At X W φ s ρ) (S : FS G d X) : ∀ a o, X.C.h.get? a = some o → s.heap.get? a = some o := fun a o e => F.f.pin a o (S.base a o e)
theorem At.In (F : At X W φ s ρ) (S : FS G d X) : X.C.K.In s.heap := S.g.X.keeps (F.keep S)

theorem load_ok {x : Str} {i : Nat} {p : Pos} {o : O} {Q : Value → Shared → Prop} (S : FS G d X) (F : At X W φ s ρ) (hx : X.fi.isVar x i = true) (e : ρ[i]? = some (some o))
    (h : ∀ v', X.fi.tbl.lookup x = some i → X.env.kindOf x ≠ none → Val X.env s.heap x v' → OR W s.heap (φ i) o v' → Q v' s) : wpAny X.C.M X.A (eval (.Name x p) X.env) Q E s := by
  simp only [FI.isVar, Bool.and_eq_true, beq_iff_eq, bne_iff_ne, ne_eq, Bool.or_eq_true] at hx
  obtain ⟨⟨⟨h1, h2⟩, h3⟩, h4⟩ := hx
  have hk : X.env.kindOf x ≠ none := by rw [S.kind]; rintro q; rcases h2 with (z | z) | z <;> rw [q] at z <;> cases z
  obtain ⟨v', a, b⟩ := F.lr x i h1 o e hk
  refine wpAny_Name ?_ (by simpa using h3)
  have fin := h v' h1 hk a b
  rcases a with ⟨hk, m, hn, hm⟩ | ⟨hk | hk, c, hc, hv⟩
  · exact wpAny_loadName_local S.fn hk hn hm fin
  · exact wpAny_loadName_cell S.fn hk hc hv fin
  · exact wpAny_loadName_free S.fn hk hc hv fin (by simpa using h4)

theorem store_ok {x : Str} {i : Nat} {o : O} {v' : Value} {Q : Unit → Shared → Prop} (S : FS G d X) (hcm : X.fi.names.lookup x = some .local ∨ X.cm = true) (F : At X W φ s ρ) (r : RO X W φ s.heap o v') (hx : X.fi.isOwn x i = true)
    (h : ∀ φ' s', At X W φ' s' (ρ.set i (some o)) → Ag W s.heap W s'.heap → Q () s') : wpAny X.C.M X.A (storeName X.env x v') Q E s := by
  simp only [FI.isOwn, Bool.and_eq_true, beq_iff_eq, Bool.or_eq_true] at hx
  obtain ⟨h1, h2⟩ := hx
  obtain ⟨p, r, hp⟩ := r
  have ti : ∀ y, X.fi.tbl.lookup y = some i → y = x := fun y hy => S.ti y x i hy h1
  rcases h2 with h2 | h2
  · have hk := (S.kind x).trans h2
    obtain ⟨o1, es, ep, ho, hd, hs⟩ := F.f.ns
    have hn : s.heap.Ns X.env.locals (fun y => nsFind es y) := ⟨o1, es, ep, ho, hd, hs, fun _ => rfl⟩
    refine wpAny_storeName_local hk hn (fun h' hn' hs' => ?_) (by rw [S.fn]; rfl)
    have hC : ∀ y c, X.env.cells.lookup y = some c → c ≠ X.env.locals := fun y c hc q => by
      obtain ⟨o2, _, e2, e3⟩ := F.f.cells y c hc; rw [q, ho] at e2; cases e2; rw [hd] at e3; cases e3
    obtain ⟨A, B⟩ := F.store (t := s.toks + 1) ti h1 r hp (.inl rfl) hs' (.inl ⟨hk, _, hn', by simp⟩) (fun y w hy q => by
      rcases q with ⟨a1, m, a2, a3⟩ | ⟨a1, c, a2, a3⟩
      · refine .inl ⟨a1, _, hn', ?_⟩
        rw [if_neg hy]
        obtain ⟨o2, es2, ep2, ho2, hd2, _, hf2⟩ := a2
        rw [ho] at ho2; cases ho2; rw [hd] at hd2; cases hd2
        exact (hf2 y).trans a3
      · exact .inr ⟨a1, c, a2, a3.sameBut hs' (hC y c a2)⟩)
      (by obtain ⟨o2, es2, ep2, a, b, c, _⟩ := hn'; exact ⟨o2, es2, ep2, a, b, c⟩) (fun y c hc => by
        obtain ⟨o2, v2, a, b⟩ := F.f.cells y c hc; exact ⟨o2, v2, (hs'.2 c (hC y c hc)).trans a, b⟩)
    exact h _ _ A B
  · have hcm : X.cm = true := hcm.resolve_left fun q => by rw [h2] at q; cases q
    have hk := (S.kind x).trans h2
    obtain ⟨c, hc⟩ := S.cel x (.inl h2)
    obtain ⟨o1, w, ho, hd⟩ := F.f.cells x c hc
    refine wpAny_storeName_cell S.fn hk hc ⟨o1, ho, hd⟩ fun h' hc' hs' => ?_
    have hL : X.env.locals ≠ c := fun q => by
      obtain ⟨o2, _, _, e2, e3, _⟩ := F.f.ns; rw [q, ho] at e2; cases e2; rw [hd] at e3; cases e3
    obtain ⟨A, B⟩ := F.store (t := s.toks) ti h1 r hp (.inr ⟨hcm, x, hc⟩) hs' (.inr ⟨.inl hk, c, hc, hc'⟩) (fun y w hy q => by
      rcases q with ⟨a1, m, a2, a3⟩ | ⟨a1, c2, a2, a3⟩
      · exact .inl ⟨a1, m, a2.sameBut hs' hL, a3⟩
      · exact .inr ⟨a1, c2, a2, a3.sameBut hs' fun q => hy (S.inj y x c (q ▸ a2) hc)⟩)
      (by obtain ⟨o2, es2, ep2, a, b, c⟩ := F.f.ns; exact ⟨o2, es2, ep2, (hs'.2 _ hL).trans a, b, c⟩) (fun y c2 hc2 => by
        by_cases q : c2 = c
        · subst q; obtain ⟨o2, a, b⟩ := hc'; exact ⟨o2, _, a, b⟩
        · obtain ⟨o2, v2, a, b⟩ := F.f.cells y c2 hc2; exact ⟨o2, v2, (hs'.2 c2 q).trans a, b⟩)
    exact h _ _ A B

theorem glob_ok {x : Str} {p : Pos} {v : Value} {Q : Value → Shared → Prop} (S : FS G d X) (F : At X W φ s ρ) (hx : X.fi.isGlob x = true) (hv : X.C.mg x = some v) (h : Q v s) : wpAny X.C.M X.A (eval (.Name x p) X.env) Q E s := by
  simp only [FI.isGlob, Bool.and_eq_true, beq_iff_eq, bne_iff_ne, ne_eq] at hx
  refine PySem.Calls.Name_function_global S.fn ((S.kind x).trans hx.1) (PySem.Calls.loadGlobal_global (mg := X.C.mg) ?_ hv h) (by simpa using hx.2)
  rw [S.gl]; exact S.g.g.keeps (F.keep S)
theorem bi_ok {x : Str} {p : Pos} {v : Value} {Q : Value → Shared → Prop} (S : FS G d X) (F : At X W φ s ρ) (hx : isBi G X.fi x = true) (hv : bootBuiltins x = some v) (h : Q v s) : wpAny X.C.M X.A (eval (.Name x p) X.env) Q E s := by
  simp only [isBi, FI.isGlob, Bool.and_eq_true, beq_iff_eq, bne_iff_ne, ne_eq, List.contains_iff_mem] at hx
  obtain ⟨⟨h1, h2⟩, h3⟩ := hx
  obtain ⟨h4, h5⟩ := S.g.bn x h3
  refine PySem.Calls.Name_function_global S.fn ((S.kind x).trans h1) (PySem.Calls.loadGlobal_builtin (mg := X.C.mg) (mb := X.C.mb) ?_ h4 ?_ ((S.g.bi x h5).trans hv) h) (by simpa using h2)
  · rw [S.gl]; exact S.g.g.keeps (F.keep S)
  · rw [S.bi]; exact S.g.b.keeps (F.keep S)
end
end Mine
end

section
open PySem
set_option autoImplicit false
set_option linter.unusedVariables false
namespace Mine
open PySem.W (Frag kitOne keepIn Looks)

set_option genSizeOf false in
set_option genInjectivity false in
inductive Fl where
  | next
  | ret (o : O)
set_option genSizeOf false in
set_option genInjectivity false in
inductive Tk where
  | b (b : Bool)
  | r (o : O)
  | l (fl : Fl) (ρ : Loc)
  | vs (l : List V)
structure St where
  ρ : Loc
  tp : List Tk
  ob : List Prop
noncomputable def All (l : List Prop) : Prop := @List.rec Prop (fun _ => Prop) True (fun p _ q => p ∧ q) l
theorem All.app : ∀ {l m : List Prop}, All (l ++ m) → All l ∧ All m
  | [], _, h => ⟨trivial, h⟩
  | _ :: _, _, h => ⟨⟨h.1, (All.app h.2).1⟩, (All.app h.2).2⟩

noncomputable def bd {α β : Type} (x : Option (α × St)) (f : α → St → Option (β × St)) : Option (β × St) := x.bind fun p => f p.1 p.2
noncomputable def rt {α : Type} (x : Option (α × List Prop)) (σ : St) : Option (α × St) := x.bind fun p => some (p.1, ⟨σ.ρ, σ.tp, p.2 ++ σ.ob⟩)
noncomputable def pu {α : Type} (x : α) (σ : St) : Option (α × St) := some (x, σ)
noncomputable def slot (ρ : Loc) (i : Nat) : Option O := (ρ[i]?).bind id
theorem slot_some {ρ : Loc} {i : Nat} {o : O} (e : slot ρ i = some o) : ρ[i]? = some (some o) := by
  unfold slot at e; cases q : ρ[i]? with
  | none => rw [q] at e; cases e
  | some x => rw [q] at e; exact congrArg some e

def Ok {α : Type} (ev : St → Option (α × St)) (S : Loc → α → Loc → Prop) : Prop := ∀ σ a σ', ev σ = some (a, σ') → All σ'.ob → All σ.ob ∧ S σ.ρ a σ'.ρ
section
variable {α β : Type} {S : Loc → α → Loc → Prop} {S' : Loc → β → Loc → Prop}
theorem Ok.bd {f : St → Option (α × St)} {g : α → St → Option (β × St)} (hf : Ok f S) {R : α → Loc → β → Loc → Prop} (hg : ∀ a, Ok (g a) (R a)) (k : ∀ ρ a ρ₁ b ρ', S ρ a ρ₁ → R a ρ₁ b ρ' → S' ρ b ρ') : Ok (fun σ => bd (f σ) g) S' := by
  intro σ b σ' e h
  obtain ⟨⟨a, σ₁⟩, e1, e2⟩ := Option.bind_eq_some_iff.mp e
  obtain ⟨h1, h2⟩ := hg a σ₁ b σ' e2 h
  obtain ⟨h3, h4⟩ := hf σ a σ₁ e1 h1
  exact ⟨h3, k _ _ _ _ _ h4 h2⟩
theorem Ok.rt {x : Option (α × List Prop)} (k : ∀ a p ρ, x = some (a, p) → All p → S ρ a ρ) : Ok (rt x) S := by
  intro σ a σ' e h
  obtain ⟨⟨a', p⟩, e1, e2⟩ := Option.bind_eq_some_iff.mp e
  cases e2
  obtain ⟨h1, h2⟩ := All.app h
  exact ⟨h2, k _ p _ e1 h1⟩
theorem Ok.pu {x : α} (k : ∀ ρ, S ρ x ρ) : Ok (pu x) S := fun σ a σ' e h => by cases e; exact ⟨h, k _⟩
theorem Ok.none {f : St → Option (α × St)} (h : ∀ σ, f σ = none) : Ok f S := fun σ a σ' e => by rw [h] at e; cases e
end

structure Gs (W : WS) (s : Shared) (W' : WS) (s' : Shared) : Prop where
  g : Grow W s.heap W' s'.heap
  gens : s'.gens = s.gens
  os : s'.os = s.os
noncomputable def RN (h : Heap) (W' : WS) (h' : Heap) (o : O) (v' : Value) : Prop := O.rec (fun v => VR W' h' v v') (fun r => ∃ a, v' = .ref a ∧ h.get? a = none ∧ ¬ W' a ∧ OwnAt W' h' a r) o
noncomputable def BR (W : WS) (h : Heap) (o : O) (v' : Value) : Prop := O.rec (fun v => VR W h v v') (fun r => ∃ a, v' = .ref a ∧ OwnAt W h a r) o
def Aft (W : WS) (s : Shared) (Q : Value → Shared → Prop) (o : O) : Prop := ∀ v' W' s', Gs W s W' s' → RN s.heap W' s'.heap o v' → Q v' s'

section
variable {X : FC} {W : WS} {φ : Nat → List Addr} {s : Shared} {ρ : Loc} {Q : Value → Shared → Prop}
theorem At.gs (F : At X W φ s ρ) {W' : WS} {s' : Shared} (g : Gs W s W' s') : At X W' φ s' ρ :=
  have A := F.grow (t := s'.toks) g.g
  ⟨g.gens.trans F.gens, g.os.trans F.os, A.f, A.lr, A.ow⟩
theorem RN.ro (F : At X W φ s ρ) {W' : WS} {h' : Heap} {o : O} {v' : Value} (r : RN s.heap W' h' o v') : RO X W' φ h' o v' := by
  cases o with
  | val v => exact .val r
  | own r' =>
    obtain ⟨a, rfl, e, w, z⟩ := r
    refine ⟨[a], ⟨a, rfl, rfl, z⟩, fun b q => ?_⟩
    cases List.mem_singleton.mp q
    refine ⟨w, fun m => ?_, ?_⟩
    · rcases m with m | ⟨_, x, m⟩ | ⟨i, m⟩
      · obtain ⟨o, _, _, z, _⟩ := F.f.ns; rw [← m, e] at z; cases z
      · obtain ⟨o, _, z, _⟩ := F.f.cells x a m; rw [e] at z; cases z
      · obtain ⟨_, _, z⟩ := F.ow i a m; rw [e] at z; cases z
    · cases q : X.pin a with
      | none => rfl
      | some o => have := F.f.pin a o q; rw [e] at this; cases this
theorem Gs.toks (wf : ∀ a, W a → ∃ o, s.heap.get? a = some o) (t : Nat) : Gs W s W { s with toks := t } := ⟨⟨fun _ _ e => e, fun _ q => q, wf, fun _ _ _ q => q⟩, rfl, rfl⟩
theorem Aft.here {v : V} {v' : Value} {t : Nat} (k : Aft W s Q (.val v)) (wf : ∀ a, W a → ∃ o, s.heap.get? a = some o) (r : VR W s.heap v v') : Q v' { s with toks := t } := k _ _ _ (.toks wf t) r
theorem fresh_size (h : Heap) : h.get? h.objs.size = none := by
  cases q : h.get? h.objs.size with
  | none => rfl
  | some o => exact absurd (Heap.lt_size q) (Nat.lt_irrefl _)
theorem none_of_le {h : Heap} {a : Addr} (e : h.objs.size ≤ a) : h.get? a = none := by
  cases q : h.get? a with
  | none => rfl
  | some o => exact absurd (Heap.lt_size q) (Nat.not_lt.mpr e)
theorem Gs.of (wf : ∀ a, W a → ∃ o, s.heap.get? a = some o) {h' : Heap} {t : Nat} (k : ∀ a o, s.heap.get? a = some o → h'.get? a = some o) : Gs W s W { s with heap := h', toks := t } :=
  ⟨⟨k, fun _ q => q, fun a q => (wf a q).elim fun o e => ⟨o, k a o e⟩, fun _ _ _ q => q⟩, rfl, rfl⟩
theorem Aft.tuple {l : List V} {vs : Array Value} {e t : Nat} (k : Aft W s Q (.val (.tup l))) (wf : ∀ a, W a → ∃ o, s.heap.get? a = some o) (r : VRs W s.heap l vs.toList) (hz : l.length ≤ sizeLine) :
    Q (.ref s.heap.objs.size) { s with heap := s.heap.push (tupO vs e), toks := t } := by
  have hk : ∀ a o, s.heap.get? a = some o → (s.heap.push (tupO vs e)).get? a = some o := fun _ _ q => Heap.get?_push_of_some _ q
  have g : Grow W s.heap (fun b => W b ∨ b = s.heap.objs.size) (s.heap.push (tupO vs e)) := by
    refine ⟨hk, fun _ q => .inl q, fun a q => ?_, fun a o z q => q.elim id fun q => by rw [q, fresh_size] at z; cases z⟩
    rcases q with q | q
    · obtain ⟨o, z⟩ := wf a q; exact ⟨o, hk a o z⟩
    · rw [q]; exact ⟨_, Heap.get?_push_size _ rfl⟩
  exact k _ _ _ ⟨g, rfl, rfl⟩ ⟨_, vs, e, rfl, .inr rfl, Heap.get?_push_size _ rfl, hz, VRs.ag (g.ag wf) r⟩
theorem Aft.listAt {r : List V} {vs : Array Value} {e t a : Nat} {h' : Heap} (k : Aft W s Q (.own r)) (wf : ∀ a, W a → ∃ o, s.heap.get? a = some o) (hk : ∀ a o, s.heap.get? a = some o → h'.get? a = some o) (ha : s.heap.get? a = none)
    (ho : h'.get? a = some (lstO vs e)) (hr : VRs W s.heap r.reverse vs.toList) (hz : r.length ≤ sizeLine) : Q (.ref a) { s with heap := h', toks := t } :=
  have g := Gs.of (t := t) wf hk
  k _ _ _ g ⟨a, rfl, ha, (fun q => (wf a q).elim fun o z => by rw [ha] at z; cases z), vs, e, ho, VRs.ag (g.g.ag wf) hr, hz⟩
theorem Aft.list {r : List V} {vs : Array Value} {e t : Nat} (k : Aft W s Q (.own r)) (wf : ∀ a, W a → ∃ o, s.heap.get? a = some o) (hr : VRs W s.heap r.reverse vs.toList) (hz : r.length ≤ sizeLine) :
    Q (.ref s.heap.objs.size) { s with heap := s.heap.push (lstO vs e), toks := t } :=
  k.listAt wf (fun _ _ q => Heap.get?_push_of_some _ q) (fresh_size _) (Heap.get?_push_size _ rfl) hr hz
end

structure Pst (X : FC) (W : WS) (s : Shared) (W' : WS) (φ' : Nat → List Addr) (s' : Shared) (ρ' : Loc) : Prop where
  f : At X W' φ' s' ρ'
  ag : Ag W s.heap W' s'.heap
  vl : ∀ x v', Val X.env s.heap x v' → Val X.env s'.heap x v'

section
variable (G : Gl) (d : Nat) (fi : FI)
def EvG (x : Expr) (ρ : Loc) (o : O) (ρ' : Loc) : Prop := ∀ (X : FC) (E : Value → Shared → Prop) (W : WS) (φ : Nat → List Addr) (s : Shared), X.fi = fi → FS G d X → At X W φ s ρ →
  ∀ Q : Value → Shared → Prop, (∀ v' W' φ' s', Pst X W s W' φ' s' ρ' → RO X W' φ' s'.heap o v' → Q v' s') → wpAny X.C.M X.A (eval x X.env) Q E s
def EvV (x : Expr) (ρ : Loc) (v : V) (ρ' : Loc) : Prop := ∀ (X : FC) (E : Value → Shared → Prop) (W : WS) (φ : Nat → List Addr) (s : Shared), X.fi = fi → FS G d X → At X W φ s ρ →
  ∀ Q : Value → Shared → Prop, (∀ v' W' φ' s', Pst X W s W' φ' s' ρ' → VR W' s'.heap v v' → Q v' s') → wpAny X.C.M X.A (eval x X.env) Q E s
def PkG (x : Expr) (ρ : Loc) (o : O) (ρ' : Loc) : Prop := ∀ (X : FC) (E : Value → Shared → Prop) (W : WS) (φ : Nat → List Addr) (s : Shared), X.fi = fi → FS G d X → At X W φ s ρ →
  ∀ Q : Value → Shared → Prop, (∀ v' W' φ' s', Pst X W s W' φ' s' ρ' → BR W' s'.heap o v' → Q v' s') → wpAny X.C.M X.A (eval x X.env) Q E s
def TrG (x : Expr) (ρ : Loc) (t : Bool) (ρ' : Loc) : Prop := ∀ (X : FC) (E : Value → Shared → Prop) (W : WS) (φ : Nat → List Addr) (s : Shared), X.fi = fi → FS G d X → At X W φ s ρ →
  ∀ Q : Bool → Shared → Prop, (∀ W' φ' s', Pst X W s W' φ' s' ρ' → Q t s') → wpAny X.C.M X.A (isTrue x X.env (eval x X.env)) Q E s
abbrev plainArgs (xs : List Expr) (env : Env) : List (Bool × Sem Value) := xs.map fun x => (false, eval x env)
def RwG (xs : List Expr) (ρ : Loc) (vs : List V) (ρ' : Loc) : Prop := vs.length = xs.length ∧ ∀ (X : FC) (E : Value → Shared → Prop) (W : WS) (φ : Nat → List Addr) (s : Shared), X.fi = fi → FS G d X → At X W φ s ρ →
  ∀ Q : List Value → Shared → Prop, (∀ vs' W' φ' s', Pst X W s W' φ' s' ρ' → VRs W' s'.heap vs vs' → Q vs' s') → wpAny X.C.M X.A (spliced (plainArgs xs X.env)) Q E s
end
section
variable {G : Gl} {d : Nat} {fi : FI} {x : Expr} {ρ ρ' ρ₁ : Loc} {o : O} {X : FC} {W W' W'' : WS} {φ φ' φ'' : Nat → List Addr} {s s' s'' : Shared}
theorem Pst.refl (F : At X W φ s ρ) : Pst X W s W φ s ρ := ⟨F, .refl .., fun _ _ r => r⟩
theorem Pst.trans (p : Pst X W s W' φ' s' ρ₁) (q : Pst X W' s' W'' φ'' s'' ρ') : Pst X W s W'' φ'' s'' ρ' := ⟨q.f, p.ag.trans q.ag, fun x v r => q.vl x v (p.vl x v r)⟩
theorem Pst.gs (F : At X W φ s ρ) (g : Gs W s W' s') : Pst X W s W' φ s' ρ := ⟨F.gs g, g.g.ag F.f.wf, fun _ _ r => r.grow g.g.k⟩
theorem EvG.v (h : EvG G d fi x ρ o ρ') : EvV G d fi x ρ o.frz ρ' := fun X E W φ s e S F Q k => h X E W φ s e S F Q fun v' W' φ' s' p r => by
  obtain ⟨W'', A, B, C⟩ := p.f.frz r
  exact k v' W'' φ' s' ⟨A, p.ag.trans B, p.vl⟩ C
theorem RO.br {h : Heap} {v' : Value} (r : RO X W φ h o v') : BR W h o v' := by
  obtain ⟨p, r, _⟩ := r
  cases o with
  | val v => exact r.2
  | own r' => obtain ⟨a, _, e, z⟩ := r; exact ⟨a, e, z⟩
theorem EvG.pk (h : EvG G d fi x ρ o ρ') : PkG G d fi x ρ o ρ' := fun X E W φ s e S F Q k => h X E W φ s e S F Q fun v' W' φ' s' p r => k v' W' φ' s' p r.br
theorem Aft.of {Q : Value → Shared → Prop} (p : Pst X W s W' φ' s' ρ') (k : ∀ v' W' φ' s', Pst X W s W' φ' s' ρ' → RO X W' φ' s'.heap o v' → Q v' s') : Aft W' s' Q o := fun v' W'' s'' g r => k v' W'' φ' s'' (p.trans (.gs p.f g)) (r.ro p.f)
end
end Mine
end

section
open PySem
set_option autoImplicit false
set_option linter.unusedVariables false
namespace Mine
open PySem.W (Frag kitOne keepIn Looks)

def plainX : Expr → Bool
  | .Starred _ _ => false
  | .Slice _ _ _ _ => false
  | .Set _ _ _ => false
  | _ => true
def isComp : Expr → Bool
  | .ListComp _ _ _ _ => true
  | .SetComp _ _ _ _ => true
  | .DictComp _ _ _ _ _ => true
  | _ => false

noncomputable def V.int? (v : V) : Option Int := V.casesOn v Option.none (fun _ => Option.none) some (fun _ => Option.none) (fun _ => Option.none) (fun _ => Option.none)
noncomputable def V.str? (v : V) : Option (List Nat) := V.casesOn v Option.none (fun _ => Option.none) (fun _ => Option.none) some (fun _ => Option.none) (fun _ => Option.none)
noncomputable def V.tup? (v : V) : Option (List V) := V.casesOn v Option.none (fun _ => Option.none) (fun _ => Option.none) (fun _ => Option.none) some (fun _ => Option.none)
noncomputable def V.lst? (v : V) : Option (List V) := V.casesOn v Option.none (fun _ => Option.none) (fun _ => Option.none) (fun _ => Option.none) (fun _ => Option.none) some
theorem V.int_of {v : V} {i : Int} (e : v.int? = some i) : v = .int i := by cases v <;> cases e; rfl
theorem V.str_of {v : V} {i : List Nat} (e : v.str? = some i) : v = .str i := by cases v <;> cases e; rfl
theorem V.tup_of {v : V} {i : List V} (e : v.tup? = some i) : v = .tup i := by cases v <;> cases e; rfl
theorem V.lst_of {v : V} {i : List V} (e : v.lst? = some i) : v = .lst i := by cases v <;> cases e; rfl
noncomputable def truthB (o : O) : Bool := O.rec (fun v => V.casesOn v false id (fun i => i != 0) (fun s => !s.isEmpty) (fun l => !l.isEmpty) (fun l => !l.isEmpty)) (fun r => !r.isEmpty) o

theorem sizeLine_lt : sizeLine < 2 ^ 62 := by unfold sizeLine; omega
theorem arr_empty {l : List V} {vs : Array Value} (h : vs.size = l.length) : vs.isEmpty = l.isEmpty := by
  rw [Bool.eq_iff_iff]; simp [List.isEmpty_iff, ← List.length_eq_zero_iff, ← h]

section
variable {C : Cx} {A : Around} {E : Value → Shared → Prop} {W : WS} {s : Shared}
theorem truth_list {a : Addr} {vs : Array Value} {n : Nat} {l : List V} {Q : Bool → Shared → Prop} (e : s.heap.get? a = some (lstO vs n)) (r : VRs W s.heap l vs.toList) (hz : l.length ≤ sizeLine) (h : ∀ tk, Q (!l.isEmpty) { s with toks := tk }) : wpAny C.M A (truthy (.ref a)) Q E s := by
  have hs := r.size
  have := sizeLine_lt
  refine wpAny_truthy_list ⟨_, e, rfl, _, rfl⟩ (by rw [hs]; omega) ?_
  rw [arr_empty hs]; exact h _
theorem truth_ok {o : O} {v' : Value} {Q : Bool → Shared → Prop} (r : BR W s.heap o v') (h : ∀ tk, Q (truthB o) { s with toks := tk }) : wpAny C.M A (truthy v') Q E s := by
  have hz := sizeLine_lt
  cases o with
  | own r' =>
    obtain ⟨a, rfl, vs, n, e, x, y⟩ := r
    refine truth_list e x (by simpa using y) ?_
    rw [List.isEmpty_reverse]; exact h
  | val v =>
    cases v with
    | none => cases r; exact fun _ _ _ => h _
    | bool b => cases r; exact wpAny_truthy_bool (h s.toks)
    | int i => obtain ⟨t, rfl⟩ := r; exact P.truthy_int (h s.toks)
    | str z =>
      obtain ⟨t, rfl, ok, hl⟩ := r
      refine P.truthy_str (by simp [Str.length]; omega) ?_
      have : (((⟨z.toArray⟩ : Str).length : Int) != 0) = !z.isEmpty := by cases z <;> simp [Str.length]; omega
      rw [this]; exact h _
    | tup l =>
      obtain ⟨a, vs, n, rfl, _, e, hl, hr⟩ := VR.tup r
      have hs := hr.size
      refine PyProof.Rows.truthy_tuple ⟨_, e, rfl, _, rfl⟩ (by rw [hs]; omega) ?_
      rw [arr_empty hs]; exact h _
    | lst l =>
      obtain ⟨a, vs, n, rfl, _, e, hl, hr⟩ := VR.lst r
      exact truth_list e hr hl h
end

structure T (G : Gl) (d : Nat) (fi : FI) where
  x : Expr
  ev : St → Option (O × St)
  pk : St → Option (O × St)
  tr : St → Option (Bool × St)
  pl : plainX x = true
  eo : Ok ev (EvG G d fi x)
  po : Ok pk (PkG G d fi x)
  to : Ok tr (TrG G d fi x)
structure Rw (G : Gl) (d : Nat) (fi : FI) where
  xs : List Expr
  ev : St → Option (List V × St)
  pl : ∀ x, x ∈ xs → plainX x = true
  eo : Ok ev (RwG G d fi xs)

section
variable {G : Gl} {d : Nat} {fi : FI}
abbrev trPlain (x : Expr) : Prop := ∀ env, isTrue x env (eval x env) = (do let v ← eval x env; standAt x.pos; holding [v] (truthy v))
theorem PkG.tr {x : Expr} {ρ ρ' : Loc} {o : O} (h : PkG G d fi x ρ o ρ') (ht : trPlain x) : TrG G d fi x ρ (truthB o) ρ' := fun X E W φ s e S F Q k =>
  wpAny_isTrue_value (h X E W φ s e S F _ fun v' W' φ' s' p r => truth_ok r fun tk => k W' φ' { s' with toks := tk } ⟨p.f.toks tk, p.ag, p.vl⟩) (ht X.env)
theorem Ok.mono {α : Type} {f : St → Option (α × St)} {S S' : Loc → α → Loc → Prop} (h : Ok f S) (k : ∀ ρ a ρ', S ρ a ρ' → S' ρ a ρ') : Ok f S' := fun σ a σ' e q => ⟨(h σ a σ' e q).1, k _ _ _ (h σ a σ' e q).2⟩
noncomputable def tst (f : St → Option (O × St)) (σ : St) : Option (Bool × St) := bd (f σ) fun o σ => pu (truthB o) σ
theorem Ok.tst {x : Expr} {f : St → Option (O × St)} (h : Ok f (PkG G d fi x)) (ht : trPlain x) : Ok (tst f) (TrG G d fi x) :=
  h.bd (R := fun o ρ t ρ' => t = truthB o ∧ ρ = ρ') (fun o => .pu fun _ => ⟨rfl, rfl⟩) fun ρ o ρ₁ t ρ' a b => by obtain ⟨rfl, rfl⟩ := b; exact a.tr ht
noncomputable def T.mk' (x : Expr) (ev : St → Option (O × St)) (pl : plainX x = true) (eo : Ok ev (EvG G d fi x)) (ht : trPlain x) : T G d fi :=
  have po := eo.mono fun _ _ _ h => h.pk
  ⟨x, ev, ev, tst ev, pl, eo, po, po.tst ht⟩

theorem EvG.here {x : Expr} {ρ : Loc} {v : V} (h : ∀ (M : Model) (A : Around) (E : Value → Shared → Prop) (env : Env) (W : WS) (s : Shared) (Q : Value → Shared → Prop), (∀ v' t, VR W s.heap v v' → Q v' { s with toks := t }) → wpAny M A (eval x env) Q E s) : EvG G d fi x ρ (.val v) ρ :=
  fun X E W φ s e S F Q k => h _ _ _ _ W s Q fun v' t r => k v' W φ _ ⟨F.toks t, .refl .., fun _ _ r => r⟩ (.val r)
noncomputable def eNone (k : Nat) (p : Pos) : T G d fi := .mk' (.Constant .none k p) (pu (.val .none)) rfl (.pu fun _ => .here fun _ _ _ _ W s Q k => wpAny_Constant_none (k _ s.toks rfl)) fun _ => rfl
noncomputable def eBool (b : Bool) (k : Nat) (p : Pos) : T G d fi := .mk' (.Constant (.bool b) k p) (pu (.val (.bool b))) rfl (.pu fun _ => .here fun _ _ _ _ W s Q k => wpAny_Constant_bool (k _ s.toks rfl)) fun _ => rfl
noncomputable def eInt (i : Int) (k : Nat) (p : Pos) : T G d fi := .mk' (.Constant (.int i) k p) (pu (.val (.int i))) rfl (.pu fun _ => .here fun _ _ _ _ W s Q k => wpAny_Constant_int (k _ _ ⟨_, rfl⟩)) fun _ => rfl
noncomputable def eStr (x : Str) (z : List Nat) (k : Nat) (p : Pos) (e : x = ⟨z.toArray⟩) (h : (PyData.strOk ⟨z.toArray⟩ && Nat.ble z.length 1000) = true) : T G d fi :=
  .mk' (.Constant (.str x) k p) (pu (.val (.str z))) rfl (.pu fun _ => .here fun _ _ _ _ W s Q k => wpAny_Constant_str (k _ _ (by
    subst e
    rw [Bool.and_eq_true] at h
    exact ⟨_, rfl, h.1, Nat.le_trans (Nat.le_of_ble_eq_true h.2) (by decide)⟩))) fun _ => rfl

noncomputable def evVar (i : Nat) (σ : St) : Option (O × St) := (slot σ.ρ i).bind fun o => O.casesOn o (fun v => some (.val v, σ)) fun r => some (.val (.lst r.reverse), ⟨σ.ρ.set i (some (.val (.lst r.reverse))), σ.tp, σ.ob⟩)
noncomputable def pkVar (i : Nat) (σ : St) : Option (O × St) := (slot σ.ρ i).bind fun o => some (o, σ)
theorem OR.br {W : WS} {h : Heap} {p : List Addr} {o : O} {v' : Value} (r : OR W h p o v') : BR W h o v' := by
  cases o with
  | val v => exact r.2
  | own r' => obtain ⟨a, _, e, z⟩ := r; exact ⟨a, e, z⟩
theorem pkVar_ok {x : Str} {i : Nat} {p : Pos} (h : fi.isVar x i = true) : Ok (pkVar i) (PkG G d fi (.Name x p)) := by
  intro σ o σ' e q
  obtain ⟨o', e1, e2⟩ := Option.bind_eq_some_iff.mp e
  cases e2
  refine ⟨q, fun X E W φ s ef S F Q k => ?_⟩
  subst ef
  exact load_ok S F h (slot_some e1) fun v' _ _ _ r => k v' W φ s (.refl F) r.br
theorem evVar_ok {x : Str} {i : Nat} {p : Pos} (h : fi.isVar x i = true) : Ok (evVar i) (EvG G d fi (.Name x p)) := by
  intro σ o σ' e q
  obtain ⟨o', e1, e2⟩ := Option.bind_eq_some_iff.mp e
  have e1 := slot_some e1
  cases o' with
  | val v =>
    cases e2
    refine ⟨q, fun X E W φ s ef S F Q k => ?_⟩
    subst ef
    exact load_ok S F h e1 fun v' _ _ _ r => k v' W φ s (.refl F) (.val r.2)
  | own r' =>
    cases e2
    refine ⟨q, fun X E W φ s ef S F Q k => ?_⟩
    subst ef
    refine load_ok S F h e1 fun v' h1 h2 hv r => ?_
    obtain ⟨W', b2, b3, b4⟩ := F.frzVar (fun y hy => S.ti y x i hy h1) hv r
    exact k _ W' _ s ⟨b2, b3, fun _ _ r => r⟩ (.val b4)
noncomputable def eVar (x : Str) (i : Nat) (p : Pos) (h : fi.isVar x i = true) : T G d fi := ⟨.Name x p, evVar i, pkVar i, tst (pkVar i), rfl, evVar_ok h, pkVar_ok h, (pkVar_ok h).tst fun _ => rfl⟩
end
end Mine
end

section
open PySem
set_option autoImplicit false
set_option linter.unusedVariables false
namespace Mine

theorem noStar {x : Expr} (h : plainX x = true) {rest : List Expr} {env : Env} : starEach (x :: rest) env = (false, eval x env) :: starEach rest env := by
  cases x <;> first | rfl | cases h
theorem noMark {x : Expr} (h : plainX x = true) (op : CmpOp) : behindInMarks op x = false := by
  cases x <;> first | rfl | cases h
theorem backTo_plain (pos : Pos) (xs : List Expr) (env : Env) : backTo pos (plainArgs xs env) = plainArgs xs env := by
  simp [backTo, plainArgs]

section
variable {G : Gl} {d : Nat} {fi : FI}
theorem starEach_plain {env : Env} : ∀ {xs : List Expr}, (∀ x, x ∈ xs → plainX x = true) → starEach xs env = plainArgs xs env
  | [], _ => rfl
  | x :: xs, h => by rw [noStar (h x List.mem_cons_self), starEach_plain fun y q => h y (List.mem_cons_of_mem _ q)]; rfl
theorem Rw.back (r : Rw G d fi) (pos : Pos) (env : Env) : backTo pos (starEach r.xs env) = plainArgs r.xs env := by rw [starEach_plain r.pl, backTo_plain]

noncomputable def rNil : Rw G d fi := ⟨[], pu [], fun _ q => (nomatch q), .pu fun _ => ⟨rfl, fun X E W φ s e S F Q k => wpAny_pure (k [] W φ s (.refl F) rfl)⟩⟩
theorem RwG.cons {x : Expr} {xs : List Expr} {ρ ρ₁ ρ' : Loc} {v : V} {vs : List V} (h : EvV G d fi x ρ v ρ₁) (hs : RwG G d fi xs ρ₁ vs ρ') : RwG G d fi (x :: xs) ρ (v :: vs) ρ' :=
  ⟨congrArg (· + 1) hs.1, fun X E W φ s e S F Q k => PySem.Calls.spliced_cons (h X E W φ s e S F _ fun v' W₁ φ₁ s₁ p r => hs.2 X E W₁ φ₁ s₁ e S p.f _ fun vs' W₂ φ₂ s₂ p₂ r₂ => k _ W₂ φ₂ s₂ (p.trans p₂) (.cons (r.ag p₂.ag) r₂))⟩
noncomputable def rCons (a : T G d fi) (b : Rw G d fi) : Rw G d fi :=
  ⟨a.x :: b.xs, fun σ => bd (a.ev σ) fun x σ => bd (b.ev σ) fun vs σ => pu (x.frz :: vs) σ, fun y q => (List.mem_cons.mp q).elim (fun q => q ▸ a.pl) (b.pl y),
    a.eo.bd (R := fun o ρ vs ρ' => ∃ ws, vs = o.frz :: ws ∧ RwG G d fi b.xs ρ ws ρ') (fun o => b.eo.bd (R := fun ws ρ vs ρ' => vs = o.frz :: ws ∧ ρ = ρ') (fun ws => .pu fun _ => ⟨rfl, rfl⟩) fun _ ws _ _ _ h q => by obtain ⟨rfl, rfl⟩ := q; exact ⟨ws, rfl, h⟩)
      fun _ o _ _ _ h q => by obtain ⟨ws, rfl, hs⟩ := q; exact .cons h.v hs⟩

noncomputable def eTup (r : Rw G d fi) (k : Nat) (p : Pos) (h : Nat.ble r.xs.length 1000 = true) : T G d fi :=
  .mk' (.Tuple r.xs k p) (fun σ => bd (r.ev σ) fun vs σ => pu (.val (.tup vs)) σ) rfl
    (r.eo.bd (R := fun vs ρ o ρ' => o = .val (.tup vs) ∧ ρ = ρ') (fun vs => .pu fun _ => ⟨rfl, rfl⟩) fun _ vs _ _ _ hs q => by
      obtain ⟨rfl, rfl⟩ := q
      intro X E W φ s e S F Q k
      refine wpAny_Tuple ?_
      rw [r.back]
      refine hs.2 X E W φ s e S F _ fun vs' W' φ' s' p' r' => ?_
      have hz : vs.length ≤ sizeLine := by rw [hs.1]; exact Nat.le_trans (Nat.le_of_ble_eq_true h) (by decide)
      exact ⟨by rw [r'.length]; exact hz, (Aft.of p' k).tuple (t := s'.toks) p'.f.f.wf r' hz⟩) fun _ => rfl
noncomputable def eLst (r : Rw G d fi) (p : Pos) (h : Nat.ble r.xs.length 1000 = true) : T G d fi :=
  .mk' (.List r.xs p) (fun σ => bd (r.ev σ) fun vs σ => pu (.own vs.reverse) σ) rfl
    (r.eo.bd (R := fun vs ρ o ρ' => o = .own vs.reverse ∧ ρ = ρ') (fun vs => .pu fun _ => ⟨rfl, rfl⟩) fun _ vs _ _ _ hs q => by
      obtain ⟨rfl, rfl⟩ := q
      intro X E W φ s e S F Q k
      refine wpAny_List ?_
      rw [r.back]
      refine hs.2 X E W φ s e S F _ fun vs' W' φ' s' p' r' => ?_
      have hz : vs.length ≤ sizeLine := by rw [hs.1]; exact Nat.le_trans (Nat.le_of_ble_eq_true h) (by decide)
      exact ⟨by rw [r'.length]; exact hz, (Aft.of p' k).list (t := s'.toks) p'.f.f.wf (by rw [List.reverse_reverse]; exact r') (by rwa [List.length_reverse])⟩) fun _ => rfl

def Prim2 (G : Gl) (d : Nat) (tree : Value → Value → Sem Value) (k : V → V → Option (O × List Prop)) : Prop :=
  ∀ x y o ps, k x y = some (o, ps) → All ps → ∀ (X : FC) (E : Value → Shared → Prop) (W : WS) (φ : Nat → List Addr) (s : Shared) (ρ : Loc), FS G d X → At X W φ s ρ → ∀ x' y', VR W s.heap x x' → VR W s.heap y y' →
    ∀ Q, Aft W s Q o → wpAny X.C.M X.A (tree x' y') Q E s
noncomputable def ev2 (a b : T G d fi) (k : V → V → Option (O × List Prop)) (σ : St) : Option (O × St) := bd (a.ev σ) fun x σ => bd (b.ev σ) fun y σ => rt (k x.frz y.frz) σ
theorem ok2 {a b : T G d fi} {k : V → V → Option (O × List Prop)} {x : Expr} {tree : Value → Value → Sem Value} (h : Prim2 G d tree k)
    (rule : ∀ (M : Model) (A : Around) (E : Value → Shared → Prop) (s : Shared) (env : Env) (Q : Value → Shared → Prop), wpAny M A (eval a.x env) (fun a' s₁ => wpAny M A (eval b.x env) (fun b' s₂ => wpAny M A (tree a' b') Q E s₂) E s₁) E s → wpAny M A (eval x env) Q E s) :
    Ok (ev2 a b k) (EvG G d fi x) :=
  a.eo.bd (R := fun u ρ o ρ' => ∃ v ps, EvG G d fi b.x ρ v ρ' ∧ k u.frz v.frz = some (o, ps) ∧ All ps) (fun u => b.eo.bd (R := fun v ρ o ρ' => ∃ ps, k u.frz v.frz = some (o, ps) ∧ All ps ∧ ρ = ρ') (fun v => .rt fun o ps ρ e q => ⟨ps, e, q, rfl⟩)
    fun _ v _ _ _ h q => by obtain ⟨ps, q1, q2, rfl⟩ := q; exact ⟨v, ps, h, q1, q2⟩) fun _ u _ o _ h1 q => by
      obtain ⟨v, ps, h2, q1, q2⟩ := q
      intro X E W φ s e S F Q kk
      refine rule _ _ _ _ _ _ (h1.v X E W φ s e S F _ fun u' W₁ φ₁ s₁ p₁ r₁ => h2.v X E W₁ φ₁ s₁ e S p₁.f _ fun v' W₂ φ₂ s₂ p₂ r₂ => ?_)
      exact h _ _ _ _ q1 q2 X E W₂ φ₂ s₂ _ S p₂.f _ _ (r₁.ag p₂.ag) r₂ _ (Aft.of (p₁.trans p₂) kk)
noncomputable def eBin (op : Operator) (k : V → V → Option (O × List Prop)) (h : Prim2 G d (binaryOp op) k) (a b : T G d fi) (p : Pos) : T G d fi :=
  .mk' (.BinOp a.x op b.x p) (ev2 a b k) rfl (ok2 h fun _ _ _ _ _ _ q => wpAny_BinOp q) fun _ => rfl

noncomputable def kInt (f : Int → Int → Int) (c : Int → Int → List Prop) (x y : V) : Option (O × List Prop) := x.int?.bind fun i => y.int?.bind fun j => some (.val (.int (f i j)), c i j)
theorem primInt {op : Operator} {f : Int → Int → Int} {c : Int → Int → List Prop} (h : ∀ (C : Cx) (A : Around) (E : Value → Shared → Prop) (s : Shared) (i j : Int) (t u : Tok) (Q : Value → Shared → Prop), All (c i j) → (∀ t n, Q (.int (f i j) t) { s with toks := n }) → wpAny C.M A (binaryOp op (.int i t) (.int j u)) Q E s) :
    Prim2 G d (binaryOp op) (kInt f c) := by
  intro x y o ps e q X E W φ s ρ S F x' y' rx ry Q k
  obtain ⟨i, e1, e⟩ := Option.bind_eq_some_iff.mp e
  obtain ⟨j, e2, e⟩ := Option.bind_eq_some_iff.mp e
  cases e
  rw [V.int_of e1] at rx; rw [V.int_of e2] at ry
  obtain ⟨t, rfl⟩ := rx
  obtain ⟨u, rfl⟩ := ry
  exact h _ _ _ _ _ _ _ _ _ q fun t n => k.here F.f.wf ⟨t, rfl⟩
noncomputable def eAdd : T G d fi → T G d fi → Pos → T G d fi := eBin .Add (kInt (· + ·) fun _ _ => []) (primInt fun _ _ _ _ _ _ _ _ _ _ k => P.add_int (k _ _))
noncomputable def eSub : T G d fi → T G d fi → Pos → T G d fi := eBin .Sub (kInt (· - ·) fun _ _ => []) (primInt fun _ _ _ _ _ _ _ _ _ _ k => P.sub_int (k _ _))
noncomputable def eMul : T G d fi → T G d fi → Pos → T G d fi := eBin .Mult (kInt (· * ·) fun i j => [i.natAbs < 2 ^ 62 ∨ j.natAbs < 2 ^ 62]) (primInt fun _ _ _ _ _ _ _ _ _ q k => P.mul_int (k _ _) (by
  rcases q.1 with hc | hc
  · exact IntMulOk.of_left (intBits_le_64 (by omega) (by omega))
  · exact IntMulOk.of_right (intBits_le_64 (by omega) (by omega))))
noncomputable def eDiv : T G d fi → T G d fi → Pos → T G d fi := eBin .FloorDiv (kInt (· / ·) fun _ j => [0 < j ∧ j < 2 ^ 29]) (primInt fun _ _ _ s i j _ _ Q q k => by
  have hc := q.1
  refine AutoIntOps.floordiv_1 (by simp; omega) (by rw [PyProof.noPylong_small (by omega)]; decide) ?_
  show Q (.int (i.fdiv j) s.toks) _
  rw [Int.fdiv_eq_ediv_of_nonneg _ (by omega)]; exact k _ _)
noncomputable def eMod : T G d fi → T G d fi → Pos → T G d fi := eBin .Mod (kInt (· % ·) fun _ j => [0 < j]) (primInt fun _ _ _ s i j _ _ Q q k => by
  have hc := q.1
  refine AutoIntOps.mod_1 (by simp; omega) ?_
  show Q (.int (i.fmod j) s.toks) _
  rw [Int.fmod_eq_emod_of_nonneg _ (by omega)]; exact k _ _)
noncomputable def ePow : T G d fi → T G d fi → Pos → T G d fi := eBin .Pow (kInt (fun i j => i ^ j.toNat) fun i j => [i = 10 ∧ 0 < j ∧ j ≤ 100]) (primInt fun _ _ _ s i j _ _ Q q k => by
  obtain ⟨rfl, hj0, hj1⟩ := q.1
  refine AutoIntOps.pow_4 (by omega) (by simp; omega) (by decide) (by decide) ?_ (k _ _)
  have h10 : Builtin.Int.intBits 10 = 4 := by decide +kernel
  rw [h10]
  have hb : (bitsLine : Int) = 134217728 := by decide +kernel
  unfold Builtin.Int.intTooBig
  rw [decide_eq_true_eq, hb]
  omega)

theorem strOk_append {x y : List Nat} (hx : PyData.strOk ⟨x.toArray⟩ = true) (hy : PyData.strOk ⟨y.toArray⟩ = true) : PyData.strOk ⟨(x ++ y).toArray⟩ = true := by
  simp [PyData.strOk] at *
  exact ⟨hx, hy⟩
theorem strOk_of {x y : List Nat} (hx : PyData.strOk ⟨x.toArray⟩ = true) (h : ∀ c ∈ y, c ∈ x) : PyData.strOk ⟨y.toArray⟩ = true := by
  simp [PyData.strOk] at *
  exact fun c hc => hx c (h c hc)
theorem str_append (x y : List Nat) : (⟨x.toArray⟩ : Str) ++ ⟨y.toArray⟩ = ⟨(x ++ y).toArray⟩ := by
  show Str.mk (x.toArray ++ y.toArray) = _
  simp
def room : Nat := 1000000
theorem room_le : room ≤ sizeLine := by decide

noncomputable def kCat (x y : V) : Option (O × List Prop) := x.str?.bind fun i => y.str?.bind fun j => some (.val (.str (i ++ j)), [(i ++ j).length ≤ room])
theorem primCat : Prim2 G d (binaryOp .Add) kCat := by
  intro x y o ps e q X E W φ s ρ S F x' y' rx ry Q k
  obtain ⟨i, e1, e⟩ := Option.bind_eq_some_iff.mp e
  obtain ⟨j, e2, e⟩ := Option.bind_eq_some_iff.mp e
  cases e
  rw [V.str_of e1] at rx; rw [V.str_of e2] at ry
  obtain ⟨t, rfl, ok1, z1⟩ := rx
  obtain ⟨u, rfl, ok2, z2⟩ := ry
  have hz := Nat.le_trans q.1 room_le
  refine P.add_str ?_
  split
  · rename_i q
    have : i = [] := by simpa [Str.length] using q
    subst this
    exact k.here F.f.wf ⟨u, rfl, ok2, z2⟩
  · split
    · rename_i q
      have : j = [] := by simpa [Str.length] using q
      subst this
      rw [List.append_nil] at k
      exact k.here F.f.wf ⟨t, rfl, ok1, z1⟩
    · rw [str_append]
      exact ⟨by simpa [Str.length] using hz, k.here F.f.wf ⟨_, rfl, strOk_append ok1 ok2, hz⟩⟩
noncomputable def eCat : T G d fi → T G d fi → Pos → T G d fi := eBin .Add kCat primCat
noncomputable def kAddL (x y : V) : Option (O × List Prop) := x.lst?.bind fun i => y.lst?.bind fun j => some (.own (i ++ j).reverse, [(i ++ j).length ≤ room])
theorem primAddL : Prim2 G d (binaryOp .Add) kAddL := by
  intro x y o ps e q X E W φ s ρ S F x' y' rx ry Q k
  obtain ⟨i, e1, e⟩ := Option.bind_eq_some_iff.mp e
  obtain ⟨j, e2, e⟩ := Option.bind_eq_some_iff.mp e
  cases e
  rw [V.lst_of e1] at rx; rw [V.lst_of e2] at ry
  obtain ⟨a, vs, n, rfl, _, h1, z1, r1⟩ := VR.lst rx
  obtain ⟨b, ws, m, rfl, _, h2, z2, r2⟩ := VR.lst ry
  have hz := Nat.le_trans q.1 room_le
  refine P.add_list h1 h2 (k.list F.f.wf ?_ ?_) ?_
  · rw [Array.toList_append, List.reverse_reverse]; exact r1.append r2
  · rwa [List.length_reverse]
  · rw [r1.size, r2.size, ← List.length_append]; exact hz
noncomputable def eAddL : T G d fi → T G d fi → Pos → T G d fi := eBin .Add kAddL primAddL

theorem neg_ok {a : T G d fi} {p : Pos} : Ok (fun σ => bd (a.ev σ) fun x σ => rt (x.frz.int?.bind fun i => some (.val (.int (-i)), [])) σ) (EvG G d fi (.UnaryOp .USub a.x p)) :=
  a.eo.bd (R := fun x ρ o ρ' => ∃ i, x.frz = .int i ∧ o = .val (.int (-i)) ∧ ρ = ρ') (fun x => .rt fun o ps ρ e q => by
    obtain ⟨i, e1, e⟩ := Option.bind_eq_some_iff.mp e; cases e; exact ⟨i, V.int_of e1, rfl, rfl⟩) fun _ x _ _ _ h q => by
      obtain ⟨i, hx, rfl, rfl⟩ := q
      intro X E W φ s e S F Q k
      refine wpAny_UnaryOp (h.v X E W φ s e S F _ fun v' W' φ' s' p' r' => ?_)
      rw [hx] at r'
      obtain ⟨t, rfl⟩ := r'
      exact P.neg_int ((Aft.of p' k).here p'.f.f.wf ⟨_, rfl⟩)
noncomputable def eNeg (a : T G d fi) (p : Pos) : T G d fi := .mk' (.UnaryOp .USub a.x p) _ rfl (neg_ok (a := a)) fun _ => rfl
noncomputable def eNot (a : T G d fi) (p : Pos) : T G d fi where
  x := .UnaryOp .Not a.x p
  ev σ := bd (a.pk σ) fun x σ => pu (.val (.bool (!truthB x))) σ
  pk σ := bd (a.pk σ) fun x σ => pu (.val (.bool (!truthB x))) σ
  tr σ := bd (a.tr σ) fun t σ => pu (!t) σ
  pl := rfl
  eo := a.po.bd (R := fun x ρ o ρ' => o = .val (.bool (!truthB x)) ∧ ρ = ρ') (fun x => .pu fun _ => ⟨rfl, rfl⟩) fun _ x _ _ _ h q => by
    obtain ⟨rfl, rfl⟩ := q
    exact fun X E W φ s e S F Q k => wpAny_UnaryOp (h X E W φ s e S F _ fun v' W' φ' s' p' r' => not_value (truth_ok r' fun tk => k _ W' φ' _ ⟨p'.f.toks tk, p'.ag, p'.vl⟩ (.val rfl)))
  po := a.po.bd (R := fun x ρ o ρ' => o = .val (.bool (!truthB x)) ∧ ρ = ρ') (fun x => .pu fun _ => ⟨rfl, rfl⟩) fun _ x _ _ _ h q => by
    obtain ⟨rfl, rfl⟩ := q
    exact fun X E W φ s e S F Q k => wpAny_UnaryOp (h X E W φ s e S F _ fun v' W' φ' s' p' r' => not_value (truth_ok r' fun tk => k _ W' φ' _ ⟨p'.f.toks tk, p'.ag, p'.vl⟩ rfl))
  to := a.to.bd (R := fun t ρ u ρ' => u = !t ∧ ρ = ρ') (fun t => .pu fun _ => ⟨rfl, rfl⟩) fun _ t _ _ _ h q => by
    obtain ⟨rfl, rfl⟩ := q
    exact fun X E W φ s e S F Q k => wpAny_isTrue_Not (h X E W φ s e S F _ fun W' φ' s' p' => k W' φ' s' p')
end
end Mine
end

section
open PySem
set_option autoImplicit false
set_option linter.unusedVariables false
namespace Mine

noncomputable def Tk.b? (k : Tk) : Option Bool := Tk.casesOn k some (fun _ => none) (fun _ _ => none) (fun _ => none)
noncomputable def Tk.r? (k : Tk) : Option O := Tk.casesOn k (fun _ => none) some (fun _ _ => none) (fun _ => none)
noncomputable def Tk.l? (k : Tk) : Option (Fl × Loc) := Tk.casesOn k (fun _ => none) (fun _ => none) (fun a b => some (a, b)) (fun _ => none)
noncomputable def Tk.vs? (k : Tk) : Option (List V) := Tk.casesOn k (fun _ => none) (fun _ => none) (fun _ _ => none) some
noncomputable def told {α β : Type} (f : Tk → Option β) (p : Loc → β → Prop) (r : β → α) (ρ : β → Loc → Loc) (σ : St) : Option (α × St) :=
  List.casesOn σ.tp none fun k tp => (f k).bind fun b => some (r b, ⟨ρ b σ.ρ, tp, p σ.ρ b :: σ.ob⟩)
theorem Ok.told {α β : Type} {f : Tk → Option β} {p : Loc → β → Prop} {r : β → α} {ρ : β → Loc → Loc} {S : Loc → α → Loc → Prop} (k : ∀ b ρ₀, p ρ₀ b → S ρ₀ (r b) (ρ b ρ₀)) : Ok (told f p r ρ) S := by
  intro σ a σ' e h
  unfold Mine.told at e
  cases ht : σ.tp with
  | nil => rw [ht] at e; cases e
  | cons t tp =>
    rw [ht] at e
    obtain ⟨b, _, e⟩ := Option.bind_eq_some_iff.mp e
    cases e
    exact ⟨h.2, k b _ h.1⟩
noncomputable def dec (f t : Bool) (σ : St) : Option (Bool × St) := Bool.casesOn f (pu t σ) (told Tk.b? (fun _ b => t = b) id (fun _ ρ => ρ) σ)
theorem Ok.dec (f t : Bool) : Ok (dec f t) fun ρ b ρ' => b = t ∧ ρ = ρ' := by
  cases f with
  | false => exact .pu fun _ => ⟨rfl, rfl⟩
  | true => exact Ok.told (f := Tk.b?) (p := fun _ b => t = b) (r := id) (ρ := fun _ ρ => ρ) fun b _ h => ⟨h.symm, rfl⟩

section
variable {G : Gl} {d : Nat} {fi : FI}
noncomputable def sc (op : BoolOp) (t : Bool) : Bool := BoolOp.casesOn op (!t) t
def BvG (G : Gl) (d : Nat) (fi : FI) (pos : Pos) (op : BoolOp) (xs : List Expr) (ρ : Loc) (o : O) (ρ' : Loc) : Prop := ∀ (X : FC) (E : Value → Shared → Prop) (W : WS) (φ : Nat → List Addr) (s : Shared), X.fi = fi → FS G d X → At X W φ s ρ →
  ∀ Q : Value → Shared → Prop, (∀ v' W' φ' s', Pst X W s W' φ' s' ρ' → RO X W' φ' s'.heap o v' → Q v' s') → wpAny X.C.M X.A (boolOp pos op (evalEach xs X.env)) Q E s
def BtG (G : Gl) (d : Nat) (fi : FI) (op : BoolOp) (xs : List Expr) (ρ : Loc) (t : Bool) (ρ' : Loc) : Prop := ∀ (X : FC) (E : Value → Shared → Prop) (W : WS) (φ : Nat → List Addr) (s : Shared), X.fi = fi → FS G d X → At X W φ s ρ →
  ∀ Q : Bool → Shared → Prop, (∀ W' φ' s', Pst X W s W' φ' s' ρ' → Q t s') → wpAny X.C.M X.A (allTrue op xs X.env) Q E s
structure Bp (G : Gl) (d : Nat) (fi : FI) (op : BoolOp) where
  x : Expr
  xs : List Expr
  ev : St → Option (O × St)
  tr : St → Option (Bool × St)
  eo : ∀ pos, Ok ev (BvG G d fi pos op (x :: xs))
  to : Ok tr (BtG G d fi op (x :: xs))
theorem allTrue_one {op : BoolOp} {M : Model} {A : Around} {E : Value → Shared → Prop} {s : Shared} {env : Env} {x : Expr} {rest : List Expr} {Q : Bool → Shared → Prop}
    (h : wpAny M A (isTrue x env (eval x env)) (fun t s₁ => Bool.casesOn (motive := fun _ => Prop) (sc op t) (wpAny M A (allTrue op rest env) Q E s₁) (Q t s₁)) E s) : wpAny M A (allTrue op (x :: rest) env) Q E s := by
  cases op
  · exact wpAny_allTrue_And_cons (wpAny_mono h (fun t _ q => by cases t <;> exact q) fun _ _ q => q)
  · exact wpAny_allTrue_Or_cons (wpAny_mono h (fun t _ q => by cases t <;> exact q) fun _ _ q => q)
noncomputable def bLast (op : BoolOp) (a : T G d fi) : Bp G d fi op :=
  ⟨a.x, [], a.ev, a.tr, fun _ => a.eo, a.to.mono fun ρ t ρ' h X E W φ s e S F Q k => allTrue_one (h X E W φ s e S F _ fun W' φ' s' p => by
    cases op <;> cases t
    · exact k _ _ _ p
    · exact wpAny_allTrue_And_nil (k _ _ _ p)
    · exact wpAny_allTrue_Or_nil (k _ _ _ p)
    · exact k _ _ _ p)⟩
noncomputable def bCons (f : Bool) {op : BoolOp} (a : T G d fi) (b : Bp G d fi op) : Bp G d fi op where
  x := a.x
  xs := b.x :: b.xs
  ev σ := bd (a.ev σ) fun x σ => bd (dec f (truthB x) σ) fun t σ => Bool.casesOn (sc op t) (b.ev σ) (pu x σ)
  tr σ := bd (a.tr σ) fun t σ => bd (dec f t σ) fun t σ => Bool.casesOn (sc op t) (b.tr σ) (pu t σ)
  eo pos := a.eo.bd (R := fun x ρ o ρ' => Bool.casesOn (motive := fun _ => Prop) (sc op (truthB x)) (BvG G d fi pos op (b.x :: b.xs) ρ o ρ') (o = x ∧ ρ = ρ'))
    (fun x => (Ok.dec f _).bd (R := fun t ρ o ρ' => Bool.casesOn (motive := fun _ => Prop) (sc op t) (BvG G d fi pos op (b.x :: b.xs) ρ o ρ') (o = x ∧ ρ = ρ')) (fun t => by
      cases sc op t
      · exact b.eo pos
      · exact .pu fun _ => ⟨rfl, rfl⟩) fun _ t _ _ _ h q => by obtain ⟨rfl, rfl⟩ := h; exact q)
    fun _ x _ o _ h q X E W φ s e S F Q k => by
      show wpAny _ _ (eval a.x X.env >>= fun v => standAt pos >>= fun _ => holding [v] (truthy v) >>= fun t => _) Q E s
      refine wpAny_bind (h X E W φ s e S F _ fun v' W' φ' s' p' r' => wpAny_bind (wpAny_standAt (wpAny_bind (wpAny_holding (truth_ok r'.br fun tk => ?_)))))
      have p1 : Pst X W s W' φ' { s' with toks := tk } _ := ⟨p'.f.toks tk, p'.ag, p'.vl⟩
      revert q
      cases truthB x <;> cases op <;> intro q
      · obtain ⟨rfl, rfl⟩ := q; exact wpAny_pure (k _ _ _ _ p1 r')
      · exact q X E W' φ' _ e S p1.f _ fun v2 W2 φ2 s2 p2 r2 => k _ _ _ _ (p1.trans p2) r2
      · exact q X E W' φ' _ e S p1.f _ fun v2 W2 φ2 s2 p2 r2 => k _ _ _ _ (p1.trans p2) r2
      · obtain ⟨rfl, rfl⟩ := q; exact wpAny_pure (k _ _ _ _ p1 r')
  to := a.to.bd (R := fun t ρ u ρ' => Bool.casesOn (motive := fun _ => Prop) (sc op t) (BtG G d fi op (b.x :: b.xs) ρ u ρ') (u = t ∧ ρ = ρ'))
    (fun t => (Ok.dec f t).bd (R := fun t ρ u ρ' => Bool.casesOn (motive := fun _ => Prop) (sc op t) (BtG G d fi op (b.x :: b.xs) ρ u ρ') (u = t ∧ ρ = ρ')) (fun t => by
      cases sc op t
      · exact b.to
      · exact .pu fun _ => ⟨rfl, rfl⟩) fun _ t _ _ _ h q => by obtain ⟨rfl, rfl⟩ := h; exact q)
    fun _ t _ u _ h q X E W φ s e S F Q k => allTrue_one (h X E W φ s e S F _ fun W' φ' s' p' => by
      revert q
      cases sc op t <;> intro q
      · exact q X E W' φ' s' e S p'.f _ fun W2 φ2 s2 p2 => k _ _ _ (p'.trans p2)
      · obtain ⟨rfl, rfl⟩ := q; exact k _ _ _ p')
noncomputable def eBop {op : BoolOp} (r : Bp G d fi op) (p : Pos) : T G d fi :=
  ⟨.BoolOp op (r.x :: r.xs) p, r.ev, r.ev, r.tr, rfl, r.eo p, (r.eo p).mono fun ρ o ρ' h => EvG.pk h, r.to.mono fun ρ t ρ' h X E W φ s e S F Q k => wpAny_isTrue_BoolOp (h X E W φ s e S F Q k)⟩

def PrimC (G : Gl) (d : Nat) (op : CmpOp) (k : V → O → Option (Bool × List Prop)) : Prop :=
  ∀ x y t ps, k x y = some (t, ps) → All ps → ∀ (X : FC) (E : Value → Shared → Prop) (W : WS) (φ : Nat → List Addr) (s : Shared) (ρ : Loc), FS G d X → At X W φ s ρ → ∀ x' y', VR W s.heap x x' → BR W s.heap y y' →
    ∀ Q : Value → Shared → Prop, (∀ tk, Q (.bool t) { s with toks := tk }) → wpAny X.C.M X.A (compareOp op x' y') Q E s
def CmG (G : Gl) (d : Nat) (fi : FI) (op : CmpOp) (a b : Expr) (ρ : Loc) (t : Bool) (ρ' : Loc) : Prop := ∀ (X : FC) (E : Value → Shared → Prop) (W : WS) (φ : Nat → List Addr) (s : Shared), X.fi = fi → FS G d X → At X W φ s ρ →
  ∀ Q : Value → Shared → Prop, (∀ W' φ' s', Pst X W s W' φ' s' ρ' → Q (.bool t) s') → wpAny X.C.M X.A (eval a X.env) (fun a' s₁ => wpAny X.C.M X.A (eval b X.env) (fun b' s₂ => wpAny X.C.M X.A (compareOp op a' b') Q E s₂) E s₁) E s
noncomputable def evC (a b : T G d fi) (k : V → O → Option (Bool × List Prop)) (σ : St) : Option (Bool × St) := bd (a.ev σ) fun x σ => bd (b.pk σ) fun y σ => rt (k x.frz y) σ
theorem evC_ok {op : CmpOp} {k : V → O → Option (Bool × List Prop)} (h : PrimC G d op k) (a b : T G d fi) : Ok (evC a b k) (CmG G d fi op a.x b.x) :=
  a.eo.bd (R := fun u ρ t ρ' => ∃ v ps, PkG G d fi b.x ρ v ρ' ∧ k u.frz v = some (t, ps) ∧ All ps) (fun u => b.po.bd (R := fun v ρ t ρ' => ∃ ps, k u.frz v = some (t, ps) ∧ All ps ∧ ρ = ρ') (fun v => .rt fun t ps ρ e q => ⟨ps, e, q, rfl⟩)
    fun _ v _ _ _ h q => by obtain ⟨ps, q1, q2, rfl⟩ := q; exact ⟨v, ps, h, q1, q2⟩) fun _ u _ t _ h1 q => by
      obtain ⟨v, ps, h2, q1, q2⟩ := q
      exact fun X E W φ s e S F Q kk => h1.v X E W φ s e S F _ fun u' W₁ φ₁ s₁ p₁ r₁ => h2 X E W₁ φ₁ s₁ e S p₁.f _ fun v' W₂ φ₂ s₂ p₂ r₂ =>
        h _ _ _ _ q1 q2 X E W₂ φ₂ s₂ _ S p₂.f _ _ (r₁.ag p₂.ag) r₂ _ fun tk => kk _ _ _ ⟨p₂.f.toks tk, p₁.ag.trans p₂.ag, (p₁.trans p₂).vl⟩
noncomputable def T.cmp (op : CmpOp) (a b : Expr) (p : Pos) (hb : plainX b = true) (c : St → Option (Bool × St)) (h : Ok c (CmG G d fi op a b)) : T G d fi :=
  have eo : Ok (fun σ => bd (c σ) fun t σ => pu (O.val (.bool t)) σ) (EvG G d fi (.Compare a [op] [b] p)) :=
    h.bd (R := fun t ρ o ρ' => o = .val (.bool t) ∧ ρ = ρ') (fun t => .pu fun _ => ⟨rfl, rfl⟩) fun _ t _ _ _ h q => by
      obtain ⟨rfl, rfl⟩ := q
      exact fun X E W φ s e S F Q k => wpAny_Compare1 (h X E W φ s e S F Q fun W' φ' s' p' => k _ _ _ _ p' (.val rfl)) (noMark hb _)
  ⟨.Compare a [op] [b] p, _, _, c, rfl, eo, eo.mono fun _ _ _ h => h.pk, h.mono fun ρ t ρ' h X E W φ s e S F Q k => wpAny_isTrue_Compare1 (h X E W φ s e S F _ fun W' φ' s' p' => wpAny_truthy_bool (k _ _ _ p')) (noMark hb _)⟩
noncomputable def eCmp (op : CmpOp) (k : V → O → Option (Bool × List Prop)) (h : PrimC G d op k) (a b : T G d fi) (p : Pos) : T G d fi := .cmp op a.x b.x p b.pl (evC a b k) (evC_ok h a b)

noncomputable def V.bool? (v : V) : Option Bool := V.casesOn v Option.none some (fun _ => Option.none) (fun _ => Option.none) (fun _ => Option.none) (fun _ => Option.none)
theorem V.bool_of {v : V} {i : Bool} (e : v.bool? = some i) : v = .bool i := by cases v <;> cases e; rfl
noncomputable def O.val? (o : O) : Option V := O.casesOn o some fun _ => none
theorem O.val_of {o : O} {v : V} (e : o.val? = some v) : o = .val v := by cases o <;> cases e; rfl
noncomputable def eqV (x y : V) : Option Bool := V.casesOn x none (fun a => y.bool?.bind fun b => some (a == b)) (fun a => y.int?.bind fun b => some (a == b)) (fun a => y.str?.bind fun b => some (a == b)) (fun _ => none) (fun _ => none)
theorem eqV_ok {x y : V} {t : Bool} (e : eqV x y = some t) {C : Cx} {A : Around} {E : Value → Shared → Prop} {W : WS} {s : Shared} {x' y' : Value} (rx : VR W s.heap x x') (ry : VR W s.heap y y') (hu : A.units < cLine) (Q : Value → Shared → Prop) :
    (Q (.bool t) s → wpAny C.M A (compareOp .Eq x' y') Q E s) ∧ (Q (.bool (!t)) s → wpAny C.M A (compareOp .NotEq x' y') Q E s) := by
  cases x <;> first | cases e | skip
  · obtain ⟨b, e1, e⟩ := Option.bind_eq_some_iff.mp e
    cases e; rw [V.bool_of e1] at ry; cases rx; cases ry
    exact ⟨fun k => SeqAt.compareEq_reads (.bool _) (.bool _) rfl rfl hu k, fun k => SeqAt.compareNe_reads (.bool _) (.bool _) rfl rfl hu k⟩
  · obtain ⟨b, e1, e⟩ := Option.bind_eq_some_iff.mp e
    cases e; rw [V.int_of e1] at ry; obtain ⟨t, rfl⟩ := rx; obtain ⟨u, rfl⟩ := ry
    exact ⟨fun k => P.eq_int k, fun k => P.ne_int k⟩
  · obtain ⟨b, e1, e⟩ := Option.bind_eq_some_iff.mp e
    cases e; rw [V.str_of e1] at ry; obtain ⟨t, rfl, _⟩ := rx; obtain ⟨u, rfl, _⟩ := ry
    exact ⟨fun k => P.eq_str k, fun k => P.ne_str k⟩
theorem FS.u {X : FC} (S : FS G d X) : X.A.units + deep + 1 < cLine := by have := S.un; omega
noncomputable def kEq (x : V) (y : O) : Option (Bool × List Prop) := y.val?.bind fun y => (eqV x y).bind fun t => some (t, [])
noncomputable def kNe (x : V) (y : O) : Option (Bool × List Prop) := y.val?.bind fun y => (eqV x y).bind fun t => some (!t, [])
theorem primEq : PrimC G d .Eq kEq := by
  intro x y t ps e q X E W φ s ρ S F x' y' rx ry Q k
  obtain ⟨v, e1, e⟩ := Option.bind_eq_some_iff.mp e
  obtain ⟨u, e2, e⟩ := Option.bind_eq_some_iff.mp e
  cases e; rw [O.val_of e1] at ry
  exact (eqV_ok e2 rx ry (by have := S.u; omega) Q).1 (k s.toks)
theorem primNe : PrimC G d .NotEq kNe := by
  intro x y t ps e q X E W φ s ρ S F x' y' rx ry Q k
  obtain ⟨v, e1, e⟩ := Option.bind_eq_some_iff.mp e
  obtain ⟨u, e2, e⟩ := Option.bind_eq_some_iff.mp e
  cases e; rw [O.val_of e1] at ry
  exact (eqV_ok e2 rx ry (by have := S.u; omega) Q).2 (k s.toks)
noncomputable def eEq : T G d fi → T G d fi → Pos → T G d fi := eCmp .Eq kEq primEq
noncomputable def eNe : T G d fi → T G d fi → Pos → T G d fi := eCmp .NotEq kNe primNe
noncomputable def kOrd (f : Int → Int → Bool) (x : V) (y : O) : Option (Bool × List Prop) := y.val?.bind fun y => x.int?.bind fun i => y.int?.bind fun j => some (f i j, [])
theorem primOrd {op : CmpOp} {f : Int → Int → Bool} (h : ∀ (C : Cx) (A : Around) (E : Value → Shared → Prop) (s : Shared) (i j : Int) (t u : Tok) (Q : Value → Shared → Prop), Q (.bool (f i j)) s → wpAny C.M A (compareOp op (.int i t) (.int j u)) Q E s) : PrimC G d op (kOrd f) := by
  intro x y t ps e q X E W φ s ρ S F x' y' rx ry Q k
  obtain ⟨v, e1, e⟩ := Option.bind_eq_some_iff.mp e
  obtain ⟨i, e2, e⟩ := Option.bind_eq_some_iff.mp e
  obtain ⟨j, e3, e⟩ := Option.bind_eq_some_iff.mp e
  cases e; rw [O.val_of e1, V.int_of e3] at ry; rw [V.int_of e2] at rx
  obtain ⟨t, rfl⟩ := rx; obtain ⟨u, rfl⟩ := ry
  exact h _ _ _ _ _ _ _ _ _ (k s.toks)
noncomputable def eLt : T G d fi → T G d fi → Pos → T G d fi := eCmp .Lt (kOrd fun i j => decide (i < j)) (primOrd fun _ _ _ _ _ _ _ _ _ k => P.lt_int k)
noncomputable def eGt : T G d fi → T G d fi → Pos → T G d fi := eCmp .Gt (kOrd fun i j => decide (i > j)) (primOrd fun _ _ _ _ _ _ _ _ _ k => P.gt_int k)
end
end Mine
end

section
open PySem
set_option autoImplicit false
set_option linter.unusedVariables false
namespace Mine
open PySem.W (Looks)

noncomputable def atI {α : Type} (l : List α) (i : Int) : Option α := Int.casesOn i (fun n => l[n]?) (fun n => l.reverse[n]?)
noncomputable def atR {α : Type} (r : List α) (i : Int) : Option α := Int.casesOn i (fun n => r.reverse[n]?) (fun n => r[n]?)
theorem atR_eq {α : Type} (r : List α) (i : Int) : atR r i = atI r.reverse i := by
  cases i with
  | ofNat n => rfl
  | negSucc n => show r[n]? = r.reverse.reverse[n]?; rw [List.reverse_reverse]
noncomputable def subO (o : O) (i : Int) : Option V := O.casesOn o (fun v => V.casesOn v none (fun _ => none) (fun _ => none) (fun s => (atI s i).bind fun c => some (.str [c])) (fun l => atI l i) (fun l => atI l i)) (fun r => atR r i)
theorem atI_inv {α : Type} {l : List α} {i : Int} {v : α} (e : atI l i = some v) : ∃ k : Nat, seqIndex? i l.length = some k ∧ l[k]? = some v ∧ ((0 ≤ i ∧ k = i.toNat) ∨ (i < 0 ∧ -(l.length : Int) ≤ i ∧ k = (i + l.length).toNat)) ∧ k < l.length := by
  cases i with
  | ofNat n =>
    have e' : l[n]? = some v := e
    have hl := (List.getElem?_eq_some_iff.mp e').1
    exact ⟨n, seqIndex_of (Int.natCast_nonneg n) (Int.ofNat_lt.mpr hl), e', .inl ⟨Int.natCast_nonneg n, rfl⟩, hl⟩
  | negSucc n =>
    have e' : l.reverse[n]? = some v := e
    have hl := (List.getElem?_eq_some_iff.mp e').1
    rw [List.length_reverse] at hl
    rw [List.getElem?_reverse hl] at e'
    have hk : (Int.negSucc n + l.length).toNat = l.length - 1 - n := by omega
    exact ⟨l.length - 1 - n, by rw [← hk]; exact seqIndex_neg (by omega) (by omega), e', .inr ⟨by omega, by omega, hk.symm⟩, by omega⟩
theorem slice_plain {e : Expr} (h : plainX e = true) (o i : Value) : subscripted e false o i = operate [o, i] (getItem o i) := by
  cases e <;> first | rfl | cases h

section
variable {C : Cx} {A : Around} {E : Value → Shared → Prop} {W : WS} {s : Shared}
theorem getList {l : List V} {vs : Array Value} {n : Nat} {a : Addr} {i : Int} {t : Tok} {v : V} {Q : Value → Shared → Prop} (ho : s.heap.get? a = some (lstO vs n)) (r : VRs W s.heap l vs.toList) (hz : l.length ≤ sizeLine) (e : atI l i = some v)
    (k : ∀ v', VR W s.heap v v' → Q v' s) : wpAny C.M A (getItem (.ref a) (.int i t)) Q E s := by
  obtain ⟨j, _, h2, h3, h4⟩ := atI_inv e
  obtain ⟨v', h5, h6⟩ := r.get h2
  have hsl := sizeLine_lt
  have hs := r.size
  have h5' : vs[j]? = some v' := by rw [← Array.getElem?_toList]; exact h5
  rcases h3 with ⟨a1, rfl⟩ | ⟨a1, a2, rfl⟩
  · exact wpAny_getItem_list ⟨_, ho, rfl, _, rfl⟩ a1 (by omega) h5' (k v' h6)
  · exact wpAny_getItem_list_neg ⟨_, ho, rfl, _, rfl⟩ a1 (by rw [hs]; exact a2) (by omega) (by rw [hs]; exact h5') (k v' h6)
theorem idx_ok {o : O} {o' : Value} {i : Int} {t : Tok} {v : V} {value slice : Expr} {Q : Value → Shared → Prop} (r : BR W s.heap o o') (e : subO o i = some v) (hs : plainX slice = true) (k : ∀ v' tk, VR W s.heap v v' → Q v' { s with toks := tk }) :
    wpAny C.M A (PyProof.Rows.subscriptTail value slice o' (.int i t)) Q E s := by
  have hsl := sizeLine_lt
  cases o with
  | own r' =>
    obtain ⟨a, rfl, vs, n, h1, h2, h3⟩ := r
    exact PyProof.Rows.tail_any (T := "list") ⟨_, h1, rfl⟩ F.slot_list_getitem.lookup (getList h1 h2 (by simpa using h3) ((atR_eq r' i).symm.trans e) fun v' r => k v' s.toks r) (slice_plain hs _ _)
  | val w =>
    cases w <;> first | cases e | skip
    · rename_i z
      obtain ⟨t1, rfl, ok, hz⟩ := r
      obtain ⟨c, e0, e'⟩ := Option.bind_eq_some_iff.mp e
      cases e'
      obtain ⟨j, e1, e2, e3, e4⟩ := atI_inv e0
      refine PyProof.Rows.tail_any (T := "str") (typeIs_str s _ t1) F.slot_str_getitem.lookup (P.getItem_str (c := c) (by simp; omega) ?_ (k _ _ ?_)) (slice_plain hs _ _)
      · show (seqIndex? i (⟨z.toArray⟩ : Str).length).bind _ = _
        have : (⟨z.toArray⟩ : Str).length = z.length := by simp [Str.length]
        rw [this, e1]
        simpa using e2
      · exact ⟨_, rfl, strOk_of ok fun x hx => by simp at hx; subst hx; exact List.mem_of_getElem? e2, by show 1 ≤ sizeLine; decide⟩
    · obtain ⟨p, vs, n, rfl, _, h1, h2, h3⟩ := VR.tup r
      obtain ⟨j, e1, e2, e3, e4⟩ := atI_inv (show atI _ i = some v from e)
      obtain ⟨v', e5, e6⟩ := h3.get e2
      exact PyProof.Rows.tail_any (T := "tuple") ⟨_, h1, rfl⟩ F.slot_tuple_getitem.lookup (P.getItem_tuple h1 (by omega) (by omega) (by rw [h3.size]; exact e1) (by rw [← Array.getElem?_toList]; exact e5) (k _ s.toks e6)) (slice_plain hs _ _)
    · obtain ⟨p, vs, n, rfl, _, h1, h2, h3⟩ := VR.lst r
      exact PyProof.Rows.tail_any (T := "list") ⟨_, h1, rfl⟩ F.slot_list_getitem.lookup (getList h1 h3 h2 (show atI _ i = some v from e) fun v' r => k v' s.toks r) (slice_plain hs _ _)
end

section
variable {G : Gl} {d : Nat} {fi : FI}
noncomputable def item (f : Bool) (o : O) (y : V) (σ : St) : Option (O × St) := y.int?.bind fun i => Bool.casesOn f (rt ((subO o i).bind fun v => some (O.val v, [])) σ) (told Tk.r? (fun _ o' => (subO o i).bind (fun v => some (O.val v)) = some o') id (fun _ ρ => ρ) σ)
def ItS (o : O) (y : V) (ρ : Loc) (o' : O) (ρ' : Loc) : Prop := ∃ i v, y = .int i ∧ subO o i = some v ∧ o' = .val v ∧ ρ = ρ'
theorem item_ok {f : Bool} {o : O} {y : V} : Ok (item f o y) (ItS o y) := by
  intro σ a σ' e h
  obtain ⟨i, e1, e⟩ := Option.bind_eq_some_iff.mp e
  cases f with
  | false => exact Ok.rt (S := ItS o y) (fun a p ρ e q => by obtain ⟨v, e2, e⟩ := Option.bind_eq_some_iff.mp e; cases e; exact ⟨i, v, V.int_of e1, e2, rfl, rfl⟩) σ a σ' e h
  | true => exact Ok.told (S := ItS o y) (f := Tk.r?) (p := fun _ o' => (subO o i).bind (fun v => some (O.val v)) = some o') (r := id) (ρ := fun _ ρ => ρ) (fun b ρ q => by obtain ⟨v, e2, e⟩ := Option.bind_eq_some_iff.mp q; cases e; exact ⟨i, v, V.int_of e1, e2, rfl, rfl⟩) σ a σ' e h
noncomputable def eIdx (f : Bool) (a k : T G d fi) (p : Pos) : T G d fi :=
  .mk' (.Subscript a.x k.x p) (fun σ => bd (a.ev σ) fun x σ => bd (k.ev σ) fun y σ => item f (.val x.frz) y.frz σ) rfl
    (a.eo.bd (R := fun x ρ o ρ' => ∃ y i v, EvG G d fi k.x ρ y ρ' ∧ y.frz = .int i ∧ subO (.val x.frz) i = some v ∧ o = .val v) (fun x => k.eo.bd (fun y => item_ok (f := f) (o := .val x.frz) (y := y.frz)) fun _ y _ _ _ h q => by
      obtain ⟨i, v, e1, e2, e3, rfl⟩ := q; exact ⟨y, i, v, h, e1, e2, e3⟩) fun _ x _ _ _ h q => by
      obtain ⟨y, i, v, hk, e1, e2, rfl⟩ := q
      intro X E W φ s e S F Q kk
      refine PyProof.Rows.Subscript_ (h.v X E W φ s e S F _ fun x' W₁ φ₁ s₁ p₁ r₁ => hk.v X E W₁ φ₁ s₁ e S p₁.f _ fun y' W₂ φ₂ s₂ p₂ r₂ => ?_)
      rw [e1] at r₂
      obtain ⟨t, rfl⟩ := r₂
      exact idx_ok (show BR W₂ s₂.heap (.val x.frz) x' from r₁.ag p₂.ag) e2 k.pl fun v' tk r => kk _ _ _ _ ⟨p₂.f.toks tk, p₁.ag.trans p₂.ag, (p₁.trans p₂).vl⟩ (.val r)) fun _ => rfl
theorem Val.uniq {env : Env} {h : Heap} {x : Str} {v w : Value} (p : Val env h x v) (q : Val env h x w) : v = w := by
  rcases p with ⟨p, m, ⟨o1, es1, ep1, p1, p2, p3, p4⟩, p5⟩ | ⟨p, c1, p1, o1, p2, p3⟩ <;> rcases q with ⟨q, m', ⟨o2, es2, ep2, q1, q2, q3, q4⟩, q5⟩ | ⟨q, c2, q1, o2, q2, q3⟩
  · rw [p1] at q1; cases q1; rw [p2] at q2; cases q2
    rw [← p4, q4, q5] at p5; exact (Option.some.inj p5).symm
  · rcases q with q | q <;> rw [p] at q <;> cases q
  · rcases p with p | p <;> rw [q] at p <;> cases p
  · rw [p1] at q1; cases q1; rw [p2] at q2; cases q2; rw [p3] at q3; exact Option.some.inj (Data.cell.inj q3)
theorem still {x : Str} {i : Nat} {X : FC} {W : WS} {φ : Nat → List Addr} {s : Shared} {ρ : Loc} {o : O} {v' : Value} (F : At X W φ s ρ) (h1 : X.fi.tbl.lookup x = some i) (hk : X.env.kindOf x ≠ none) (hv : Val X.env s.heap x v') (e : ρ[i]? = some (some o)) : OR W s.heap (φ i) o v' := by
  obtain ⟨w, a, b⟩ := F.lr x i h1 o e hk
  rw [hv.uniq a]; exact b
noncomputable def eIdxV (f : Bool) (x : Str) (i : Nat) (xp : Pos) (k : T G d fi) (p : Pos) (h : fi.isVar x i = true) : T G d fi :=
  .mk' (.Subscript (.Name x xp) k.x p) (fun σ => (slot σ.ρ i).bind fun _ => bd (k.ev σ) fun y σ => (slot σ.ρ i).bind fun o => item f o y.frz σ) rfl (by
    intro σ a σ' e q
    obtain ⟨o0, e0, e⟩ := Option.bind_eq_some_iff.mp e
    obtain ⟨⟨y, σ₁⟩, e1, e⟩ := Option.bind_eq_some_iff.mp e
    obtain ⟨o, e2, e⟩ := Option.bind_eq_some_iff.mp e
    obtain ⟨q1, j, v, h1, h2, rfl, h3⟩ := item_ok _ _ _ e q
    obtain ⟨q2, hk⟩ := k.eo σ y σ₁ e1 q1
    refine ⟨q2, fun X E W φ s ef S F Q kk => PyProof.Rows.Subscript_ (load_ok S F (ef ▸ h) (slot_some e0) fun x' hx hn hv r => hk.v X E W φ s ef S F _ fun y' W₂ φ₂ s₂ p₂ r₂ => ?_)⟩
    dsimp only at h1; rw [h1] at r₂
    obtain ⟨t, rfl⟩ := r₂
    rw [← h3] at kk
    exact idx_ok (still p₂.f hx hn (p₂.vl _ _ hv) (slot_some e2)).br h2 k.pl fun v' tk r => kk _ _ _ _ ⟨p₂.f.toks tk, p₂.ag, p₂.vl⟩ (.val r)) fun _ => rfl

theorem BR.list {W : WS} {h : Heap} {o : O} {v' : Value} {l : List V} (r : BR W h o v') (e : o.frz = .lst l) : ∃ a vs n, v' = .ref a ∧ h.get? a = some (lstO vs n) ∧ l.length ≤ sizeLine ∧ VRs W h l vs.toList := by
  cases o with
  | own r' => cases e; obtain ⟨a, rfl, vs, n, h1, h2, h3⟩ := r; exact ⟨a, vs, n, rfl, h1, by simpa using h3, h2⟩
  | val v => cases (show v = .lst l from e); obtain ⟨a, vs, n, e1, _, e2, e3, e4⟩ := VR.lst r; exact ⟨a, vs, n, e1, e2, e3, e4⟩
noncomputable def nilO (o : O) : Option Bool := O.casesOn o (fun v => v.lst?.bind fun l => some l.isEmpty) (fun r => some r.isEmpty)
theorem nilO_of {o : O} {t : Bool} (e : nilO o = some t) : ∃ l, o.frz = .lst l ∧ l.isEmpty = t := by
  cases o with
  | own r => cases e; exact ⟨_, rfl, List.isEmpty_reverse⟩
  | val v => obtain ⟨l, e1, e⟩ := Option.bind_eq_some_iff.mp e; cases e; exact ⟨l, V.lst_of e1, rfl⟩
theorem nil_cmp {C : Cx} {A : Around} {E : Value → Shared → Prop} {W : WS} {s : Shared} {l : List V} {a b : Addr} {vs ws : Array Value} {n m : Nat} (h1 : s.heap.get? a = some (lstO vs n)) (r1 : vs.size = l.length) (h2 : s.heap.get? b = some (lstO ws m)) (r2 : ws.size = 0) (hu : A.units < cLine) (Q : Value → Shared → Prop) :
    (Q (.bool l.isEmpty) s → wpAny C.M A (compareOp .Eq (.ref a) (.ref b)) Q E s) ∧ (Q (.bool (!l.isEmpty)) s → wpAny C.M A (compareOp .NotEq (.ref a) (.ref b)) Q E s) := by
  cases l with
  | nil =>
    have r1 : vs.size = 0 := r1
    refine ⟨fun k => ?_, fun k => ?_⟩
    · have z := SeqAt.RcAt.lists (A := A) (s := s) (e := fun _ => true) ⟨_, h1, rfl, _, rfl⟩ ⟨_, h2, rfl, _, rfl⟩ (r1.trans r2.symm) hu (fun j j1 => by rw [r1] at j1; cases j1)
      rw [r1] at z; exact z _ _ E Q k
    · have z := SeqAt.RcNeAt.lists (A := A) (s := s) (e := fun _ => true) ⟨_, h1, rfl, _, rfl⟩ ⟨_, h2, rfl, _, rfl⟩ (r1.trans r2.symm) hu (fun j j1 => by rw [r1] at j1; cases j1)
      rw [r1] at z; exact z _ _ E Q k
  | cons v l =>
    have hne : (vs.size != ws.size) = true := by rw [r1, r2]; rfl
    exact ⟨fun k => SeqAt.RcAt.lists_lengths (A := A) (s := s) ⟨_, h1, rfl, _, rfl⟩ ⟨_, h2, rfl, _, rfl⟩ hne (by omega) _ _ E Q k, fun k => SeqAt.RcNeAt.lists_lengths (A := A) (s := s) ⟨_, h1, rfl, _, rfl⟩ ⟨_, h2, rfl, _, rfl⟩ hne (by omega) _ _ E Q k⟩
theorem nil_core (a : T G d fi) (ne : Bool) (lp : Pos) : Ok (fun σ => bd (a.pk σ) fun x σ => rt ((nilO x).bind fun t => some (t != ne, [])) σ) (CmG G d fi (Bool.casesOn ne .Eq .NotEq) a.x (.List [] lp)) :=
  a.po.bd (R := fun x ρ t ρ' => ∃ l, x.frz = .lst l ∧ t = (l.isEmpty != ne) ∧ ρ = ρ') (fun x => .rt fun t ps ρ e q => by
    obtain ⟨u, e1, e⟩ := Option.bind_eq_some_iff.mp e; cases e; obtain ⟨l, e2, rfl⟩ := nilO_of e1; exact ⟨l, e2, rfl, rfl⟩) fun _ x _ t _ h q => by
      obtain ⟨l, e2, rfl, rfl⟩ := q
      intro X E W φ s e S F Q k
      refine h X E W φ s e S F _ fun x' W' φ' s' p' r' => wpAny_List (wpAny_pure ⟨Nat.zero_le _, ?_⟩)
      obtain ⟨b, vs, n, rfl, e3, e4, e5⟩ := r'.list e2
      have hk : ∀ a o, s'.heap.get? a = some o → (s'.heap.push (lstO ([] : List Value).toArray 0)).get? a = some o := fun _ _ q => Heap.get?_push_of_some _ q
      have fin : Q (.bool (l.isEmpty != ne)) { s' with heap := s'.heap.push (lstO ([] : List Value).toArray 0) } := k _ _ _ (p'.trans (.gs p'.f (Gs.of (t := s'.toks) p'.f.f.wf hk)))
      have z := nil_cmp (C := X.C) (A := X.A) (E := E) (W := W') (s := { s' with heap := s'.heap.push (lstO ([] : List Value).toArray 0) }) (hk _ _ e3) e5.size (Heap.get?_push_size _ rfl) rfl (by have := S.u; omega) Q
      cases ne
      · exact z.1 (by simpa using fin)
      · exact z.2 (by simpa using fin)
noncomputable def eNil (ne : Bool) (a : T G d fi) (lp p : Pos) : T G d fi := .cmp _ a.x (.List [] lp) p rfl _ (nil_core a ne lp)
end
end Mine
end

section
open PySem
set_option autoImplicit false
set_option linter.unusedVariables false
namespace Mine
open PySem.W (Looks keepIn)

theorem boot_len : bootBuiltins "len" = some (.builtin "len") := by kernel_rfl
theorem boot_isinstance : bootBuiltins "isinstance" = some (.builtin "isinstance") := by kernel_rfl
theorem boot_list : bootBuiltins "list" = some (.type "list") := by kernel_rfl
theorem boot_tuple : bootBuiltins "tuple" = some (.type "tuple") := by kernel_rfl
theorem boot_range : bootBuiltins "range" = some (.type "range") := by kernel_rfl
noncomputable def Ty.s (t : Ty) : Str := Ty.rec "tuple" "str" "int" "bool" "list" t
theorem boot_ty (t : Ty) : bootBuiltins t.s = some (.type t.n) := by
  cases t
  · exact boot_tuple
  · show bootBuiltins "str" = some (.type "str"); kernel_rfl
  · show bootBuiltins "int" = some (.type "int"); kernel_rfl
  · show bootBuiltins "bool" = some (.type "bool"); kernel_rfl
  · exact boot_list
abbrev KeepsIt (M : Model) (h : Heap) (f : Value) : Prop := ∃ k, (k = Keeper.frame ∨ k = Keeper.machine ∨ k = Keeper.boundFrame) ∧ Looks M h (keeperOf f) k
theorem keeper_builtin (M : Model) (h : Heap) (id : String) : KeepsIt M h (.builtin id) := ⟨.machine, .inr (.inl rfl), Looks.of_pure rfl⟩
theorem keeper_type (M : Model) (h : Heap) (id : String) : KeepsIt M h (.type id) := ⟨.machine, .inr (.inl rfl), Looks.of_pure rfl⟩

section
variable {M : Model} {A : Around} {E : Value → Shared → Prop} {s : Shared} {env : Env}
theorem callW {K : PySem.W.Frag} {f : Value} {pos : Pos} {first : List Value} {xs : List Expr} {Q : Value → Shared → Prop} (hk : ∀ h, K.In h → KeepsIt M h f)
    (h : wpAny M A (spliced (plainArgs xs env)) (fun vs s₁ => K.In s₁.heap ∧ wpAny M A (call f (first ++ vs)) Q E s₁) E s) : wpAny M A (callWith pos f first (plainArgs xs env) []) Q E s := by
  refine PySem.W.callWith_of (P := K.In) (by rw [show (plainArgs xs env).any (·.1) = false by simp [plainArgs]]; rfl) hk ?_
  cases xs with
  | nil =>
    unfold evalArgs
    show wpAny _ _ (spliced [] >>= _) _ _ _
    refine wpAny_bind (wpAny_mono h (fun vs s' h' => ?_) fun _ _ x => x)
    refine wpAny_holding ?_
    exact wpAny_bind (wpAny_pure (wpAny_bind (wpAny_pure (wpAny_pure h'))))
  | cons x xs => exact PySem.Calls.evalArgs_plain h
theorem method_call {o : Expr} {m : Str} {ap p : Pos} {xs : List Expr} {Q : Value → Shared → Prop} (hs : attributeBase o m env (eval o env) = eval o env) (hp : ∀ x, x ∈ xs → plainX x = true) (hl : (ap.endLine == p.line) = true) (hn : Nat.blt xs.length 30 = true)
    (h : ∀ pl, wpAny M A (eval o env) (fun ov s₁ => wpAny M A (getMethod ov m pl) (fun fx s₂ => wpAny M A (callWith p fx.1 fx.2 (plainArgs xs env) []) Q E s₂) E s₁) E s) : wpAny M A (eval (.Call (.Attribute o m ap) xs [] p) env) Q E s := by
  rw [arm_eval_Call, hs]
  refine wpAny_bind (wpAny_mono (h (do return (← importBound o env).getD true)) (fun ov s₁ h₁ => wpAny_bind (wpAny_standAt ?_)) fun _ _ x => x)
  rw [starEach_plain hp, backTo_plain]
  unfold methodCall
  have hf : methodCallForm (xs.length + ([] : List Keyword).length) (plainArgs xs env) (backToKw p (keywordEach [] env)) = true := by
    have : xs.length < 30 := Nat.le_of_ble_eq_true hn
    simp [methodCallForm, plainArgs, keywordEach, backToKw, this]
  rw [hf]
  refine wpAny_bind (wpAny_holding ?_)
  unfold calleeOf
  rw [if_pos rfl]
  refine wpAny_mono h₁ (fun fx s₂ h₂ => ?_) fun _ _ x => x
  unfold methodCallPos
  refine wpAny_bind ?_
  rw [if_pos (by rw [beq_iff_eq.mp hl]; simp)]
  exact wpAny_pure h₂
end

section
variable {G : Gl} {d : Nat} {fi : FI}
def Prim1 (G : Gl) (d : Nat) (f : Value) (k : O → Option (O × List Prop)) : Prop :=
  ∀ x o ps, k x = some (o, ps) → All ps → ∀ (X : FC) (E : Value → Shared → Prop) (W : WS) (φ : Nat → List Addr) (s : Shared) (ρ : Loc), FS G d X → At X W φ s ρ → ∀ x', BR W s.heap x x' → ∀ Q, Aft W s Q o → wpAny X.C.M X.A (call f [x']) Q E s
noncomputable def eBi (x : Str) (f : Value) (hf : bootBuiltins x = some f) (hk : ∀ M h, KeepsIt M h f) (k : O → Option (O × List Prop)) (h : Prim1 G d f k) (a : T G d fi) (p' p : Pos) (hb : isBi G fi x = true) : T G d fi :=
  .mk' (.Call (.Name x p') [a.x] [] p) (fun σ => bd (a.pk σ) fun x σ => rt (k x) σ) rfl
    (a.po.bd (R := fun x ρ o ρ' => ∃ ps, k x = some (o, ps) ∧ All ps ∧ ρ = ρ') (fun x => .rt fun o ps ρ e q => ⟨ps, e, q, rfl⟩) fun _ x _ _ _ hx q => by
      obtain ⟨ps, q1, q2, rfl⟩ := q
      intro X E W φ s e S F Q kk
      refine PyProof.Rows.Call_ (bi_ok S F (e ▸ hb) hf ?_)
      rw [starEach_plain (xs := [a.x]) (fun y q => by cases List.mem_singleton.mp q; exact a.pl), backTo_plain]
      refine callW (K := X.C.K) (fun h _ => hk _ h) (PySem.Calls.spliced_cons (hx X E W φ s e S F _ fun x' W' φ' s' p' r' => PySem.Calls.spliced_nil ⟨p'.f.In S, ?_⟩))
      exact h _ _ _ q1 q2 X E W' φ' s' _ S p'.f _ r' _ (Aft.of p' kk)) fun _ => rfl
noncomputable def lenO (o : O) : Option Nat := O.casesOn o (fun v => V.casesOn v none (fun _ => none) (fun _ => none) (fun s => some s.length) (fun l => some l.length) (fun l => some l.length)) (fun r => some r.length)
theorem primLen : Prim1 G d (.builtin "len") fun x => (lenO x).bind fun n => some (.val (.int n), []) := by
  intro x o ps e q X E W φ s ρ S F x' r Q k
  have hsl := sizeLine_lt
  obtain ⟨n, e1, e⟩ := Option.bind_eq_some_iff.mp e
  cases e
  have lst : ∀ {l : List V} {a : Addr} {vs : Array Value} {m : Nat}, s.heap.get? a = some (lstO vs m) → VRs W s.heap l vs.toList → l.length ≤ sizeLine → l.length = n → wpAny X.C.M X.A (call (.builtin "len") [.ref a]) Q E s := fun h1 h3 h2 e => by
    have hs := h3.size
    refine Calls.call_len_list ⟨_, h1, rfl, _, rfl⟩ (by rw [hs]; omega) ?_
    rw [hs, e]; exact k.here F.f.wf ⟨_, rfl⟩
  cases x with
  | own r' => cases e1; obtain ⟨a, rfl, vs, m, h1, h2, h3⟩ := r; exact lst h1 h2 (by simpa using h3) (by simp)
  | val v =>
    cases v <;> first | cases e1 | skip
    · rename_i z
      obtain ⟨t, rfl, ok, hz⟩ := r
      have hlen : (⟨z.toArray⟩ : Str).length = z.length := by simp [Str.length]
      refine P.len_str (by rw [hlen]; omega) ?_
      rw [hlen]; exact k.here F.f.wf ⟨_, rfl⟩
    · obtain ⟨p, vs, m, rfl, _, h1, h2, h3⟩ := VR.tup r
      have hs := h3.size
      refine P.len_tuple h1 (by rw [hs]; omega) ?_
      rw [hs]; exact k.here F.f.wf ⟨_, rfl⟩
    · obtain ⟨p, vs, m, rfl, _, h1, h2, h3⟩ := VR.lst r
      exact lst h1 h3 h2 rfl
noncomputable def eLen : T G d fi → Pos → Pos → isBi G fi "len" = true → T G d fi := eBi "len" (.builtin "len") boot_len (fun M h => keeper_builtin M h _) _ primLen
theorem primListT : Prim1 G d (.type "list") fun x => x.val?.bind fun v => v.tup?.bind fun l => some (.own l.reverse, []) := by
  intro x o ps e q X E W φ s ρ S F x' r Q k
  obtain ⟨v, e1, e⟩ := Option.bind_eq_some_iff.mp e
  obtain ⟨l, e2, e⟩ := Option.bind_eq_some_iff.mp e
  cases e
  rw [O.val_of e1, V.tup_of e2] at r
  obtain ⟨p, vs, m, rfl, _, h1, h2, h3⟩ := VR.tup r
  exact call_list_seq p (T := "tuple") (.inr rfl) h1 rfl rfl (fun h' c' hk ho => k.listAt (t := s.toks) F.f.wf hk (fresh_size _) ho (by rw [List.reverse_reverse]; exact h3) (by rwa [List.length_reverse])) (by rw [h3.size]; exact h2)
noncomputable def eListT : T G d fi → Pos → Pos → isBi G fi "list" = true → T G d fi := eBi "list" (.type "list") boot_list (fun M h => keeper_type M h _) _ primListT
noncomputable def kindO (o : O) : Kd := O.casesOn o (fun v => V.casesOn v .none (fun _ => .bool) (fun _ => .int) (fun _ => .str) (fun _ => .tup) (fun _ => .list)) (fun _ => .list)
theorem isi_ok {X : FC} {W : WS} {φ : Nat → List Addr} {s : Shared} {ρ : Loc} {E : Value → Shared → Prop} {a : O} {a' : Value} {t : Ty} {Q : Value → Shared → Prop} (S : FS G d X) (F : At X W φ s ρ) (r : BR W s.heap a a') (ht : t ∈ G.ty)
    (fin : ∀ tk, Q (.bool (isiK (kindO a) t)) { s with toks := tk }) : wpAny X.C.M X.A (call (.builtin "isinstance") [a', .type t.n]) Q E s := by
  have K := F.In S
  have e0 := fun k => S.g.isi k t ht
  cases a with
  | own r' => obtain ⟨p, rfl, vs, n, h1, _⟩ := r; exact PySem.W.kia_one PySem.W.kitx_list K ⟨_, h1, rfl⟩ (e0 .list) (by simp) fin
  | val v =>
    cases v with
    | none => cases r; exact PySem.W.kia_one PySem.W.kitx_none K trivial (e0 .none) (by simp) fin
    | bool b => cases r; exact PySem.W.kia_one PySem.W.kitx_bool K trivial (e0 .bool) (by simp) fin
    | int i => obtain ⟨_, rfl⟩ := r; exact PySem.W.kia_one PySem.W.kitx_int K trivial (e0 .int) (by simp) fin
    | str z => obtain ⟨_, rfl, _⟩ := r; exact PySem.W.kia_one PySem.W.kitx_str K trivial (e0 .str) (by simp) fin
    | tup l => obtain ⟨p, vs, m, rfl, _, h1, _⟩ := VR.tup r; exact PySem.W.kia_one PySem.W.kitx_tuple K ⟨_, h1, rfl⟩ (e0 .tup) (by simp) fin
    | lst l => obtain ⟨p, vs, m, rfl, _, h1, _⟩ := VR.lst r; exact PySem.W.kia_one PySem.W.kitx_list K ⟨_, h1, rfl⟩ (e0 .list) (by simp) fin
noncomputable def eIsi (a : T G d fi) (t : Ty) (p' p'' p : Pos) (h : (isBi G fi "isinstance" && isBi G fi t.s && G.ty.contains t) = true) : T G d fi :=
  .mk' (.Call (.Name "isinstance" p') [a.x, .Name t.s p''] [] p) (fun σ => bd (a.pk σ) fun x σ => pu (.val (.bool (isiK (kindO x) t))) σ) rfl
    (a.po.bd (R := fun x ρ o ρ' => o = .val (.bool (isiK (kindO x) t)) ∧ ρ = ρ') (fun x => .pu fun _ => ⟨rfl, rfl⟩) fun _ x _ _ _ hx q => by
      obtain ⟨rfl, rfl⟩ := q
      rw [Bool.and_eq_true, Bool.and_eq_true, List.contains_iff_mem] at h
      intro X E W φ s e S F Q kk
      refine PyProof.Rows.Call_ (bi_ok S F (e ▸ h.1.1) boot_isinstance ?_)
      rw [starEach_plain (xs := [a.x, .Name t.s p'']) (fun y q => by
        rcases List.mem_cons.mp q with rfl | q
        · exact a.pl
        · cases List.mem_singleton.mp q; rfl), backTo_plain]
      refine callW (K := X.C.K) (fun h _ => keeper_builtin _ h _) (PySem.Calls.spliced_cons (hx X E W φ s e S F _ fun x' W' φ' s' p' r' => PySem.Calls.spliced_cons (bi_ok S p'.f (e ▸ h.1.2) (boot_ty t) (PySem.Calls.spliced_nil ⟨p'.f.In S, ?_⟩))))
      exact isi_ok S p'.f r' h.2 fun tk => kk _ _ _ _ ⟨p'.f.toks tk, p'.ag, p'.vl⟩ (.val rfl)) fun _ => rfl

def CallOK (G : Gl) (d : Nat) (a : Addr) (args : List V) (o : O) : Prop := ∀ (C : Cx) (A : Around) (W : WS) (s : Shared) (vals : List Value) (R : Result → Shared → Prop), GOk G C → A.handled = none → A.depth + 2 * d + 9 ≤ recursionLimit → A.units + 20 * d + deep + 90 < cLine →
  (∀ b o, C.h.get? b = some o → s.heap.get? b = some o) → s.gens = #[] → s.os = C.os → (∀ a, W a → ∃ o, s.heap.get? a = some o) → VRs W s.heap args vals → Aft W s (fun v' s' => R (.ok (.ret v')) s') o → codeAny C.M A (.call (.ref a) ⟨vals, []⟩) R s
noncomputable def eCall (x : Str) (a : Addr) (r : Rw G d fi) (p' p : Pos) (h : (fi.isGlob x && (G.fn.lookup x == some a)) = true) : T G d fi :=
  .mk' (.Call (.Name x p') r.xs [] p) (fun σ => bd (r.ev σ) fun vs σ => told Tk.r? (fun _ o => CallOK G d a vs o) id (fun _ ρ => ρ) σ) rfl
    (r.eo.bd (R := fun vs ρ o ρ' => CallOK G d a vs o ∧ ρ = ρ') (fun vs => Ok.told (f := Tk.r?) (p := fun _ o => CallOK G d a vs o) (r := id) (ρ := fun _ ρ => ρ) fun o ρ q => ⟨q, rfl⟩) fun _ vs _ o _ hs q => by
      obtain ⟨q, rfl⟩ := q
      rw [Bool.and_eq_true, beq_iff_eq] at h
      intro X E W φ s e S F Q kk
      obtain ⟨g1, g2⟩ := S.g.fn x a h.2
      refine PyProof.Rows.Call_ (glob_ok S F (e ▸ h.1) g1 ?_)
      rw [r.back]
      refine callW (K := X.C.K) (fun h hX => PySem.W.keeps_K g2 h hX) (hs.2 X E W φ s e S F _ fun vs' W' φ' s' p' r' => ⟨p'.f.In S, wpAny_call ?_⟩)
      exact q X.C X.A W' s' _ _ S.g S.hd (by have := S.dp; omega) (by have := S.un; omega) (p'.f.keep S) p'.f.gens p'.f.os p'.f.f.wf r' (Aft.of p' kk)) fun _ => rfl
end
end Mine
end

section
open PySem
set_option autoImplicit false
set_option linter.unusedVariables false
namespace Mine
open PySem.W (Looks keepIn)

def asI : Option Nat → Option Int := Option.map fun n => (n : Int)
noncomputable def cut {α : Type} (l : List α) (lo hi : Option Nat) : List α := (Option.casesOn hi l fun h => l.take h : List α).drop (Option.casesOn lo 0 id)
section
variable {M : Model} {A : Around} {E : Value → Shared → Prop} {s : Shared}
theorem wpAny_slicePartIndex {v : Value} {k : Option Int} {Q : Option Int → Shared → Prop} (hv : IsPart v k) (h : Q k s) : wpAny M A (Builtin.Slice.slicePartIndex v) Q E s := by
  cases hv with
  | none => exact wpAny_pure h
  | int i t =>
    unfold Builtin.Slice.slicePartIndex
    rw [if_neg (show ¬ ((Value.int i t == Value.none) = true) from Bool.false_ne_true)]
    refine wpAny_bind (wpAny_specialOf (T := "int") (typeIs_int s i t) F.slot_int_index.lookup ?_)
    simp only [Option.isNone_some, Bool.false_eq_true, if_false]
    exact wpAny_bind (wpAny_of_eq (a := i) rfl (wpAny_pure h))
end
theorem cut_eq {α : Type} (l : List α) (lo hi : Option Nat) : cut l lo hi = (l.drop (min (lo.getD 0) l.length)).take (min (hi.getD l.length) l.length - min (lo.getD 0) l.length) := by
  have e : ∀ a : Nat, (lo.getD 0) = a → cut l lo hi = (Option.casesOn hi l fun h => l.take h : List α).drop a := by intro a h; subst h; cases lo <;> rfl
  rw [e _ rfl]
  generalize lo.getD 0 = a
  cases hi with
  | none =>
    show l.drop a = _
    simp only [Option.getD_none, Nat.min_self]
    rw [List.take_of_length_le (by rw [List.length_drop]; omega)]
    by_cases h : a ≤ l.length
    · rw [Nat.min_eq_left h]
    · rw [Nat.min_eq_right (by omega), List.drop_of_length_le (by omega), List.drop_of_length_le (Nat.le_refl _)]
  | some b =>
    show (l.take b).drop a = _
    simp only [Option.getD_some]
    by_cases h : a ≤ l.length
    · rw [Nat.min_eq_left h, List.drop_take]
      by_cases h2 : b ≤ l.length
      · rw [Nat.min_eq_left h2]
      · rw [Nat.min_eq_right (by omega), List.take_of_length_le (by rw [List.length_drop]; omega), List.take_of_length_le (by rw [List.length_drop]; omega)]
    · have h3 : min a l.length = l.length := by omega
      rw [h3, List.drop_of_length_le (by rw [List.length_take]; omega), List.drop_of_length_le (Nat.le_refl _)]; simp
theorem slicePick_cut (items : Array Value) (lo hi : Option Nat) : slicePick items (asI lo) (asI hi) none = (cut items.toList lo hi).toArray := by
  rw [slicePick_plain, cut_eq]
  cases lo <;> cases hi <;> simp [asI, clipAt_nat]
theorem cut_length_le {α : Type} (l : List α) (lo hi : Option Nat) : (cut l lo hi).length ≤ l.length := by
  rw [cut_eq, List.length_take, List.length_drop]; omega
theorem VRs.cut {W : WS} {h : Heap} {l : List V} {l' : List Value} (r : VRs W h l l') (lo hi : Option Nat) : VRs W h (Mine.cut l lo hi) (Mine.cut l' lo hi) := by
  unfold Mine.cut
  cases hi with
  | none => exact r.drop _
  | some n => exact (r.take n).drop _
theorem str_cut (z : List Nat) (lo hi : Option Nat) : (Builtin.Str.strSliceIndices (asI lo) (asI hi) 1 z.length).filterMap (z.toArray[·]?) = Mine.cut z lo hi ∧ (Builtin.Str.strSliceIndices (asI lo) (asI hi) 1 z.length).length = (Mine.cut z lo hi).length := by
  have h : Builtin.Str.strSliceIndices (asI lo) (asI hi) 1 z.length = sliceRange (sliceBounds (asI lo) (asI hi) none z.length).1 (sliceBounds (asI lo) (asI hi) none z.length).2.1 1 := by
    cases lo <;> cases hi <;> rfl
  rw [h, sliceBounds_plain]
  simp only
  rw [sliceRange_one, pick_run, cut_eq, List.length_map, List.length_range, List.length_take, List.length_drop]
  cases lo <;> cases hi <;> simp [asI, clipAt_nat] <;> omega

def PR (x : Option Int) (v : Value) : Prop := Option.casesOn x (v = .none) fun i => ∃ t, v = .int i t
noncomputable def bds (x : Option Int) : Option Nat := Option.casesOn x none fun i => some i.toNat
noncomputable def bdo (x : Option Int) (ps : List Prop) : List Prop := Option.casesOn x ps fun i => (0 ≤ i ∧ i ≤ 1000000) :: ps
theorem bdo_all {x : Option Int} {ps : List Prop} (h : All (bdo x ps)) : All ps ∧ ∀ v, PR x v → IsPart v (asI (bds x)) ∧ ∃ q : Option (Int × Tok), v = partValue q ∧ q.map (·.1) = asI (bds x) := by
  cases x with
  | none => exact ⟨h, fun v r => by cases r; exact ⟨.none, none, rfl, rfl⟩⟩
  | some i =>
    have h1 : 0 ≤ i := h.1.1
    have e : asI (bds (some i)) = some i := congrArg some (Int.toNat_of_nonneg h1)
    refine ⟨h.2, fun v r => ?_⟩
    obtain ⟨t, rfl⟩ := r
    rw [e]
    exact ⟨.int i t, some (i, t), rfl, rfl⟩

section
variable {G : Gl} {d : Nat} {fi : FI}
def BdG (G : Gl) (d : Nat) (fi : FI) (x : Option Expr) (ρ : Loc) (b : Option Int) (ρ' : Loc) : Prop := ∀ (X : FC) (E : Value → Shared → Prop) (W : WS) (φ : Nat → List Addr) (s : Shared), X.fi = fi → FS G d X → At X W φ s ρ →
  ∀ Q : Value → Shared → Prop, (∀ v' W' φ' s', Pst X W s W' φ' s' ρ' → PR b v' → Q v' s') → wpAny X.C.M X.A (evalPart x X.env) Q E s
structure Bd (G : Gl) (d : Nat) (fi : FI) where
  x : Option Expr
  ev : St → Option (Option Int × St)
  eo : Ok ev (BdG G d fi x)
noncomputable def dNone : Bd G d fi := ⟨none, pu none, .pu fun _ X E W φ s e S F Q k => wpAny_pure (k _ _ _ _ (.refl F) rfl)⟩
noncomputable def dSome (a : T G d fi) : Bd G d fi := ⟨some a.x, fun σ => bd (a.ev σ) fun x σ => x.frz.int?.bind fun i => pu (some i) σ,
  a.eo.bd (R := fun x ρ b ρ' => ∃ i, x.frz = .int i ∧ b = some i ∧ ρ = ρ') (fun x σ b σ' e q => by
    obtain ⟨i, e1, e⟩ := Option.bind_eq_some_iff.mp e; cases e; exact ⟨q, i, V.int_of e1, rfl, rfl⟩) fun _ x _ _ _ h q X E W φ s e S F Q k => by
      obtain ⟨i, hx, rfl, rfl⟩ := q
      exact h.v X E W φ s e S F _ fun v' W' φ' s' p' r' => k _ _ _ _ p' (by rw [hx] at r'; exact r')⟩
noncomputable def kSlc (v : V) (lo hi : Option Int) : Option (O × List Prop) := V.casesOn v none (fun _ => none) (fun _ => none) (fun z => some (.val (.str (cut z (bds lo) (bds hi))), bdo lo (bdo hi []))) (fun l => some (.val (.tup (cut l (bds lo) (bds hi))), bdo lo (bdo hi [])))
  (fun l => some (.own (cut l (bds lo) (bds hi)).reverse, bdo lo (bdo hi [])))

theorem adjust_eq (lo hi : Option Nat) (n : Nat) : Builtin.Slice.sliceAdjust (asI lo) (asI hi) 1 (n : Int) = (((min (lo.getD 0) n : Nat) : Int), ((min (hi.getD n) n : Nat) : Int)) := by
  unfold Builtin.Slice.sliceAdjust asI
  cases lo <;> cases hi <;> simp <;> omega
theorem places_eq (a b : Nat) : Builtin.Slice.slicePlaces (a : Int) (b : Int) 1 = b - a := by
  unfold Builtin.Slice.slicePlaces
  simp only [Int.zero_lt_one, if_true, gt_iff_lt]
  split <;> omega
theorem range_pick (xs : Array Value) (a k : Nat) : ((List.range k).filterMap fun (i : Nat) => xs[((a : Int) + (i : Int) * 1).toNat]?) = (xs.toList.drop a).take k := by
  rw [← pick_run xs a k, List.filterMap_map]
  congr 1
  funext i
  have : ((a : Int) + (i : Int) * 1).toNat = a + i := by omega
  rw [this]; rfl
theorem tuple_getitem_slice (l : Addr) (items : Array Value) (n : Nat) (a : Addr) (vl vu : Value) (lo hi : Option Nat) (pl : IsPart vl (asI lo)) (pu : IsPart vu (asI hi)) (hz : items.size ≤ sizeLine) :
    Meets (Builtin.«tuple.__getitem__» ⟨[.ref l, .ref a], []⟩)
      (fun _ R s => s.heap.get? l = some (tupO items n) ∧ s.heap.IsSliceOf a vl vu .none ∧ (cut items.toList lo hi = items.toList → R (.ok (.ret (.ref l))) s) ∧
        R (.ok (.ret (.ref s.heap.objs.size))) { s with heap := s.heap.push (tupO (cut items.toList lo hi).toArray 0) }) :=
  .of_wp fun prog w A R s h => by
    obtain ⟨hl, hs, h1, h2⟩ := h
    obtain ⟨os, hos, hcs, hds⟩ := id hs
    have hTs : s.TypeIs (.ref a) "slice" := ⟨os, hos, hcs⟩
    have hT : s.TypeIs (.ref l) "tuple" := ⟨_, hl, rfl⟩
    unfold Builtin.«tuple.__getitem__»
    show wpAny _ _ (Builtin.Tuple.tupleItemsOf (.ref l) >>= _) _ _ s
    refine wpAny_bind (wpAny_tupleItemsOf hl rfl ?_)
    refine wpAny_bind (wpAny_typeOf hTs ?_)
    rw [if_pos (by decide)]
    unfold Builtin.Slice.sliceApplied Builtin.Slice.sliceFields
    refine wpAny_bind (wpAny_bind (wpAny_bind (wpAny_field hos hds (x := vl) rfl (wpAny_bind (wpAny_field hos hds (x := vu) rfl (wpAny_bind (wpAny_field hos hds (x := .none) rfl (wpAny_pure ?_))))))))
    refine wpAny_bind (wpAny_slicePartIndex .none ?_)
    rw [if_neg (by decide)]
    refine wpAny_bind (wpAny_slicePartIndex pl (wpAny_bind (wpAny_slicePartIndex pu (wpAny_bind (wpAny_pure ?_)))))
    simp only [Option.getD_none]
    rw [adjust_eq]
    refine wpAny_pure ?_
    simp only [places_eq]
    have hc : ((List.range (min (hi.getD items.size) items.size - min (lo.getD 0) items.size)).filterMap fun (k : Nat) => items[(((min (lo.getD 0) items.size : Nat) : Int) + (k : Int) * 1).toNat]?) = cut items.toList lo hi := by
      rw [range_pick, cut_eq]; simp
    have fin : wpAny (model prog w) A.in1 (do let x ← Builtin.Tuple.tupleExact ((List.range (min (hi.getD items.size) items.size - min (lo.getD 0) items.size)).filterMap fun (k : Nat) => items[(((min (lo.getD 0) items.size : Nat) : Int) + (k : Int) * 1).toNat]?).toArray; ret x)
        (fun fin s' => ∃ v, fin = .done (.ret v) ∧ R (.ok (.ret v)) s') (fun e s' => R (.error e) s') s := by
      rw [hc]
      refine wpAny_bind (wpAny_newObj_type (wpAny_pure ⟨_, rfl, h2⟩) ?_)
      show (cut items.toList lo hi).toArray.size ≤ sizeLine
      rw [List.size_toArray]
      exact Nat.le_trans (cut_length_le _ _ _) (by simpa using hz)
    refine wpAny_ite ?_
    split
    · rename_i q
      simp only [Bool.and_eq_true, beq_iff_eq] at q
      refine wpAny_bind (wpAny_bind (wpAny_typeOf hT (wpAny_pure ?_)))
      rw [if_pos (by decide)]
      refine wpAny_bind (wpAny_rule (wpAny_pure ⟨_, rfl, h1 ?_⟩))
      rw [cut_eq]
      have h0 : min (lo.getD 0) items.toList.length = 0 := by have := q.1.1; simp at this ⊢; omega
      rw [h0, List.drop_zero]
      refine List.take_of_length_le ?_
      have := q.2
      simp only [Array.length_toList] at h0 ⊢
      omega
    · exact fin

theorem slc_ok {C : Cx} {A : Around} {E : Value → Shared → Prop} {W : WS} {s : Shared} {v : V} {v' vl vu : Value} {lo hi : Option Int} {o : O} {ps : List Prop} {value : Expr} {lower upper : Option Expr} {p : Pos} {Q : Value → Shared → Prop} {sl : Addr} (wf : ∀ a, W a → ∃ o, s.heap.get? a = some o) (r : VR W s.heap v v')
    (rl : PR lo vl) (ru : PR hi vu) (e : kSlc v lo hi = some (o, ps)) (hq : All ps) (hsl : s.heap.IsSliceOf sl vl vu .none) (k : Aft W s Q o) : wpAny C.M A (PyProof.Rows.subscriptTail value (.Slice lower upper none p) v' (.ref sl)) Q E s := by
  have hss := sizeLine_lt
  have hsub : ∀ o i : Value, subscripted (.Slice lower upper none p) false o i = operate [i, o] (getItem o i) := fun _ _ => rfl
  cases v <;> first | cases e | skip
  · rename_i z
    obtain ⟨hq, b1⟩ := bdo_all hq
    obtain ⟨_, ql, rfl, ql2⟩ := b1 _ rl
    obtain ⟨_, qu, rfl, qu2⟩ := (bdo_all hq).2 _ ru
    obtain ⟨t1, rfl, ok, hz⟩ := r
    generalize bds lo = nlo at *
    generalize bds hi = nhi at *
    have hcl := cut_length_le z nlo nhi
    obtain ⟨hc1, hc2⟩ := str_cut z nlo nhi
    have hpk : slicePicked ⟨z.toArray⟩ ql qu none = Builtin.Str.strSliceIndices (asI nlo) (asI nhi) 1 z.length := by
      unfold slicePicked
      rw [ql2, qu2]; simp [Str.length]
    have hok : PyData.strOk ⟨(Mine.cut z nlo nhi).toArray⟩ = true := strOk_of ok fun c hc => by
      rw [cut_eq] at hc; exact List.mem_of_mem_drop (List.mem_of_mem_take hc)
    refine PyProof.Rows.tail_any (T := "str") (typeIs_str s _ t1) F.slot_str_getitem.lookup (wpAny_getItem_str_slice (l := ql) (u := qu) (st := none) ?_ rfl ?_) (hsub _ _)
    · obtain ⟨o, a1, a2, a3⟩ := hsl; exact ⟨o, a1, a2, a3⟩
    · unfold sliceMade
      rw [hpk]
      split
      · rename_i q
        simp only [Option.map_none, Option.getD_none, beq_self_eq_true, Bool.true_and, beq_iff_eq] at q
        rw [hc2] at q
        have hcz : Mine.cut z nlo nhi = z := by
          have q : (Mine.cut z nlo nhi).length = z.length := by simpa [Str.length] using q
          rw [cut_eq, List.length_take, List.length_drop] at q
          rw [cut_eq]
          have h0 : z.length = 0 ∨ min (nlo.getD 0) z.length = 0 := by omega
          rcases h0 with h0 | h0
          · rw [List.length_eq_zero_iff.mp h0]; simp
          · rw [h0, List.drop_zero]; exact List.take_of_length_le (by omega)
        rw [hcz] at k
        exact k.here (t := s.toks) wf ⟨_, rfl, ok, hz⟩
      · have hm : ((Builtin.Str.strSliceIndices (asI nlo) (asI nhi) 1 z.length).filterMap ((⟨z.toArray⟩ : Str).cps[·]?)) = Mine.cut z nlo nhi := hc1
        rw [hm]
        exact ⟨by simp [Str.length]; omega, k.here wf ⟨_, rfl, hok, by omega⟩⟩
  · rename_i l
    obtain ⟨hq, b1⟩ := bdo_all hq
    obtain ⟨pl, _⟩ := b1 _ rl
    obtain ⟨pu, _⟩ := (bdo_all hq).2 _ ru
    obtain ⟨ad, vs, n, rfl, hw, h1, h2, h3⟩ := VR.tup r
    generalize bds lo = nlo at *
    generalize bds hi = nhi at *
    have hcr := h3.cut nlo nhi
    have hcl := cut_length_le l nlo nhi
    refine PyProof.Rows.tail_any (T := "tuple") ⟨_, h1, rfl⟩ F.slot_tuple_getitem.lookup (getItem_meets ⟨_, h1, rfl⟩ (by decide) F.slot_tuple_getitem F.entry_tuple_getitem (F.args_tuple_getitem_2 _ _)
      (tuple_getitem_slice ad vs n sl vl vu nlo nhi pl pu (by rw [h3.size]; exact h2)) ⟨h1, hsl, fun hw' => ?_, ?_⟩) (hsub _ _)
    · refine k.here (t := s.toks) wf ⟨ad, vs, n, rfl, hw, h1, by omega, ?_⟩
      rw [hw'] at hcr; exact hcr
    · exact k.tuple (t := s.toks) wf (by simpa using hcr) (by omega)
  · rename_i l
    obtain ⟨hq, b1⟩ := bdo_all hq
    obtain ⟨pl, _⟩ := b1 _ rl
    obtain ⟨pu, _⟩ := (bdo_all hq).2 _ ru
    obtain ⟨ad, vs, n, rfl, hw, h1, h2, h3⟩ := VR.lst r
    generalize bds lo = nlo at *
    generalize bds hi = nhi at *
    have hcr := h3.cut nlo nhi
    have hcl := cut_length_le l nlo nhi
    refine PyProof.Rows.tail_any (T := "list") ⟨_, h1, rfl⟩ F.slot_list_getitem.lookup (wpAny_getItem_list_slice ⟨_, h1, rfl, _, rfl⟩ hsl pl pu .none (by simp) (k.list (t := s.toks) wf ?_ (by rw [List.length_reverse]; omega)) (by rw [h3.size]; exact h2)) (hsub _ _)
    rw [slicePick_cut, List.reverse_reverse]; simpa using hcr
noncomputable def eSlc (a : T G d fi) (lo hi : Bd G d fi) (p' p : Pos) : T G d fi :=
  .mk' (.Subscript a.x (.Slice lo.x hi.x none p') p) (fun σ => bd (a.ev σ) fun x σ => bd (lo.ev σ) fun l σ => bd (hi.ev σ) fun h σ => rt (kSlc x.frz l h) σ) rfl
    (a.eo.bd (R := fun x ρ o ρ' => ∃ l h ρ₁ ps, BdG G d fi lo.x ρ l ρ₁ ∧ BdG G d fi hi.x ρ₁ h ρ' ∧ kSlc x.frz l h = some (o, ps) ∧ All ps) (fun x => lo.eo.bd (R := fun l ρ o ρ' => ∃ h ps, BdG G d fi hi.x ρ h ρ' ∧ kSlc x.frz l h = some (o, ps) ∧ All ps)
      (fun l => hi.eo.bd (R := fun h ρ o ρ' => ∃ ps, kSlc x.frz l h = some (o, ps) ∧ All ps ∧ ρ = ρ') (fun h => .rt fun o ps ρ e q => ⟨ps, e, q, rfl⟩) fun _ h _ _ _ z q => by obtain ⟨ps, q1, q2, rfl⟩ := q; exact ⟨h, ps, z, q1, q2⟩)
      fun _ l ρ₁ _ _ z q => by obtain ⟨h, ps, q1, q2, q3⟩ := q; exact ⟨l, h, ρ₁, ps, z, q1, q2, q3⟩) fun _ x _ _ _ z q => by
      obtain ⟨l, h, ρ₁, ps, hl, hh, q1, q2⟩ := q
      intro X E W φ s e S F Q kk
      refine PyProof.Rows.Subscript_ (z.v X E W φ s e S F _ fun x' W₁ φ₁ s₁ p₁ r₁ => wpAny_Slice (hl X E W₁ φ₁ s₁ e S p₁.f _ fun l' W₂ φ₂ s₂ p₂ r₂ => hh X E W₂ φ₂ s₂ e S p₂.f _ fun h' W₃ φ₃ s₃ p₃ r₃ => wpAny_pure ?_))
      have hk : ∀ a o, s₃.heap.get? a = some o → (s₃.heap.push { cls := .type "slice", data := .fields #[l', h', .none] }).get? a = some o := fun _ _ q => Heap.get?_push_of_some _ q
      have g := Gs.of (t := s₃.toks) p₃.f.f.wf hk
      have p4 := Pst.gs p₃.f g
      exact slc_ok (s := { s₃ with heap := _ }) p4.f.f.wf (((r₁.ag p₂.ag).ag p₃.ag).ag p4.ag) r₂ r₃ q1 q2 (Heap.IsSliceOf.new ..) (Aft.of (((p₁.trans p₂).trans p₃).trans p4) kk)) fun _ => rfl
end
end Mine
end

section
open PySem
set_option autoImplicit false
set_option linter.unusedVariables false
namespace Mine
open PySem.W (Looks keepIn)

section
variable {G : Gl} {d : Nat} {fi : FI}
noncomputable def textsOf (l : List V) : Option (List (List Nat)) := @List.rec V (fun _ => Option (List (List Nat))) (some []) (fun v _ r => v.str?.bind fun s => r.bind fun t => some (s :: t)) l
noncomputable def popV (i : Nat) (σ : St) : Option (O × St) := (slot σ.ρ i).bind fun o => O.casesOn o (fun _ => none) fun r => List.casesOn r none fun v r => some (.val v, ⟨σ.ρ.set i (some (.own r)), σ.tp, σ.ob⟩)
noncomputable def ePop (x : Str) (i : Nat) (xp ap p : Pos) (h : (fi.isVar x i && (ap.endLine == p.line)) = true) : T G d fi :=
  .mk' (.Call (.Attribute (.Name x xp) "pop" ap) [] [] p) (popV i) rfl (by
    intro σ a σ' e q
    obtain ⟨o, e1, e⟩ := Option.bind_eq_some_iff.mp e
    rw [Bool.and_eq_true] at h
    cases o with
    | val v => cases e
    | own r =>
      cases r with
      | nil => cases e
      | cons v r =>
        cases e
        refine ⟨q, fun X E W φ s ef S F Q kk => method_call rfl (fun z q => by cases q) h.2 rfl fun pl => load_ok S F (ef ▸ h.1) (slot_some e1) fun x' hx hn hv rr => ?_⟩
        obtain ⟨ad, hp, rfl, vs, n, h1, h2, h3⟩ := rr
        refine getMethod_builtin (T := "list") ⟨_, h1, rfl⟩ PySem.F.plainAttrs_list PySem.F.slot_list_pop PySem.F.type_list_pop (fun a q => by cases q; exact ⟨_, h1, rfl⟩) ?_
        refine callW (K := X.C.K) (fun h _ => keeper_builtin _ h _) (PySem.Calls.spliced_nil ⟨F.In S, ?_⟩)
        have hs := h2.size
        rw [List.length_reverse] at hs
        have hz : vs.size - 1 = r.length := by rw [hs]; rfl
        rw [List.reverse_cons] at h2
        obtain ⟨v', g1, g2⟩ := h2.get (i := r.length) (v := v) (by rw [← List.length_reverse]; exact List.getElem?_concat_length)
        refine call_meets PySem.F.slot_list_pop ⟨_, h1, rfl⟩ PySem.F.entry_list_pop (PySem.F.args_list_pop_1 _) (MeetsSeq.list_pop_last ad vs n v' (by rw [hz, ← Array.getElem?_toList]; exact g1) (by rw [hs]; exact h3)) ⟨h1, ?_⟩
        have hd : (vs.eraseIdxIfInBounds (vs.size - 1)).toList = vs.toList.take r.length := by
          have : r.length + 1 = vs.toList.length := by rw [Array.length_toList]; exact hs.symm
          rw [Array.toList_eraseIdxIfInBounds, hz, List.eraseIdx_eq_dropLast this, List.dropLast_eq_take, ← this]; rfl
        have ht := h2.take r.length
        rw [show ((r.reverse ++ [v]).take r.length) = r.reverse by rw [← List.length_reverse]; exact List.take_left] at ht
        have hsb : Heap.SameBut ad s.heap (s.heap.update ad (Obj.mapSeq fun xs => xs.eraseIdxIfInBounds (vs.size - 1))) := Heap.SameBut.update ..
        obtain ⟨A, B⟩ := F.turn (x := x) (i := i) (t := s.toks) (r := r) (fun y hy => S.ti y x i hy hx) hp hsb hv (Heap.get?_update_self _ h1 rfl) (by rw [hd]; exact ht) (Nat.le_of_succ_le h3)
        refine kk _ _ _ _ ⟨A, B, fun y w hw => ?_⟩ (.val (g2.ag B))
        have hno := F.f.notOwn h1
        obtain ⟨q, m, ⟨o, es, ep, e, z⟩, hm⟩ | ⟨q, c, hc, o, e, z⟩ := hw
        · exact .inl ⟨q, m, ⟨o, es, ep, (hsb.2 _ (Ne.symm hno.1)).trans e, z⟩, hm⟩
        · exact .inr ⟨q, c, hc, o, (hsb.2 c fun e => hno.2 y (e ▸ hc)).trans e, z⟩) fun _ => rfl
end
end Mine
end

section
open PySem
set_option autoImplicit false
set_option linter.unusedVariables false
namespace Mine
open PySem.W (Looks keepIn)

structure Fre (X : FC) (W : WS) (φ : Nat → List Addr) (a : Addr) : Prop where
  pin : X.pin a = none
  w : ¬ W a
  mu : ¬ Mut X φ a
  nc : ∀ x, X.env.cells.lookup x ≠ some a
noncomputable def FC.pinned (X : FC) (a : Addr) (o : Obj) : FC := { X with pin := fun b => if b = a then some o else X.pin b, W0 := fun b => b ≠ a ∧ X.W0 b }

section
variable {G : Gl} {d : Nat} {X : FC} {W : WS} {φ : Nat → List Addr} {s : Shared} {ρ : Loc} {h' : Heap} {a : Addr} {o : Obj}
theorem Fre.of (F : At X W φ s ρ) (e : s.heap.get? a = none) : Fre X W φ a := by
  have nc : ∀ x, X.env.cells.lookup x ≠ some a := fun x m => by obtain ⟨o, _, z, _⟩ := F.f.cells x a m; rw [e] at z; cases z
  refine ⟨?_, fun q => ?_, fun m => ?_, nc⟩
  · cases q : X.pin a with
    | none => rfl
    | some o => have := F.f.pin a o q; rw [e] at this; cases this
  · obtain ⟨o, z⟩ := F.f.wf a q; rw [e] at z; cases z
  · rcases m with m | ⟨_, x, m⟩ | ⟨i, m⟩
    · obtain ⟨o, _, _, z, _⟩ := F.f.ns; rw [← m, e] at z; cases z
    · exact nc x m
    · obtain ⟨_, _, z⟩ := F.ow i a m; rw [e] at z; cases z
theorem At.move (F : At X W φ s ρ) {D : Addr → Prop} (f : ∀ b, D b → Fre X W φ b) {W' : WS} {t : Nat} (hk : ∀ b o, ¬ D b → s.heap.get? b = some o → h'.get? b = some o) (hw : ∀ b, W b → W' b) (wf : ∀ b, W' b → ∃ o, h'.get? b = some o) (nw : ∀ b o, ¬ D b → s.heap.get? b = some o → W' b → W b) :
    At X W' φ { s with heap := h', toks := t } ρ ∧ Ag W s.heap W' h' ∧ ∀ x v, Val X.env s.heap x v → Val X.env h' x v := by
  have ne : ∀ b, W b → ¬ D b := fun b q e => (f b e).w q
  have nm : ∀ b, Mut X φ b → ¬ D b := fun b q e => (f b e).mu q
  have ag : Ag W s.heap W' h' := ⟨hw, fun b q => by obtain ⟨o, e⟩ := F.f.wf b q; exact (hk b o (ne b q) e).trans e.symm⟩
  have val : ∀ x v, Val X.env s.heap x v → Val X.env h' x v := fun x v r => by
    obtain ⟨q, m, ⟨o, es, ep, e, z⟩, hm⟩ | ⟨q, c, hc, o, e, z⟩ := r
    · exact .inl ⟨q, m, ⟨o, es, ep, hk _ _ (nm _ (.inl rfl)) e, z⟩, hm⟩
    · exact .inr ⟨q, c, hc, o, hk _ _ (fun e => (f c e).nc x hc) e, z⟩
  have ow : ∀ i b, b ∈ φ i → ¬ D b := fun i b q => nm b (.inr (.inr ⟨i, q⟩))
  have np : ∀ b o, X.pin b = some o → ¬ D b := fun b o e q => by rw [(f b q).pin] at e; cases e
  refine ⟨⟨F.gens, F.os, ⟨fun b o e => hk b o (np b o e) (F.f.pin b o e), fun b q => ⟨(F.f.mu b q).1, fun w => (F.f.mu b q).2 ?_⟩, wf, fun b o e w => F.f.w0 b o e (nw b o (np b o e) (F.f.pin b o e) w), F.f.dis, ?_, fun x c q => ?_⟩, fun x i hx o ho hn => ?_, fun i b q => ?_⟩, ag, val⟩
  · have : ∃ o, s.heap.get? b = some o := by
      rcases q with q | ⟨_, x, q⟩ | ⟨i, q⟩
      · obtain ⟨o, _, _, e, _⟩ := F.f.ns; exact ⟨o, q ▸ e⟩
      · obtain ⟨o, _, e, _⟩ := F.f.cells x b q; exact ⟨o, e⟩
      · obtain ⟨_, _, e⟩ := F.ow i b q; exact ⟨_, e⟩
    obtain ⟨o, e⟩ := this
    exact nw b o (nm b q) e w
  · obtain ⟨o, es, ep, e, z⟩ := F.f.ns; exact ⟨o, es, ep, hk _ _ (nm _ (.inl rfl)) e, z⟩
  · obtain ⟨o, v, e, z⟩ := F.f.cells x c q; exact ⟨o, v, hk c o (fun e => (f c e).nc x q) e, z⟩
  · obtain ⟨v', p, r⟩ := F.lr x i hx o ho hn
    exact ⟨v', val _ _ p, r.ag ag fun b q => by obtain ⟨_, _, e⟩ := F.ow i b q; exact (hk b _ (ow i b q) e).trans e.symm⟩
  · obtain ⟨vs, n, e⟩ := F.ow i b q; exact ⟨vs, n, hk b _ (ow i b q) e⟩
theorem At.loose (F : At X W φ s ρ) (f : Fre X W φ a) {t : Nat} (hk : ∀ b o, b ≠ a → s.heap.get? b = some o → h'.get? b = some o) :
    At X W φ { s with heap := h', toks := t } ρ ∧ Ag W s.heap W h' ∧ ∀ x v, Val X.env s.heap x v → Val X.env h' x v :=
  F.move (D := (· = a)) (fun b q => q ▸ f) hk (fun _ q => q) (fun b q => by obtain ⟨o, e⟩ := F.f.wf b q; exact ⟨o, hk b o (fun z => f.w (z ▸ q)) e⟩) fun _ _ _ _ q => q
theorem At.pinned (F : At X W φ s ρ) (f : Fre X W φ a) (e : s.heap.get? a = some o) : At (X.pinned a o) W φ s ρ where
  gens := F.gens
  os := F.os
  f := { F.f with
    pin := fun b o' q => by
      dsimp only [FC.pinned] at q
      split at q
      · rename_i z; cases q; rw [z]; exact e
      · exact F.f.pin b o' q
    mu := fun b q => by
      have q : Mut X φ b := q
      have z : b ≠ a := fun z => f.mu (z ▸ q)
      exact ⟨(if_neg z).trans (F.f.mu b q).1, (F.f.mu b q).2⟩
    w0 := fun b o' q w => by
      dsimp only [FC.pinned] at q ⊢
      split at q
      · rename_i z; exact absurd (z ▸ w) f.w
      · rename_i z; exact ⟨z, F.f.w0 b o' q w⟩ }
  lr := F.lr
  ow := F.ow
theorem FC.pinned_ne {b : Addr} (h : b ≠ a) : (X.pinned a o).pin b = X.pin b := if_neg h
theorem FC.pinned_same : (X.pinned a o).pin a = some o := if_pos rfl
theorem At.unpin (F : At (X.pinned a o) W φ s ρ) (hp : X.pin a = none) (nc : ∀ x, X.env.cells.lookup x ≠ some a) : At X W φ s ρ ∧ Fre X W φ a ∧ s.heap.get? a = some o := by
  have ne : ∀ b, Mut X φ b → b ≠ a := fun b q e => by have := (F.f.mu b q).1; rw [e, FC.pinned_same] at this; cases this
  refine ⟨⟨F.gens, F.os, { F.f with pin := fun b o' q => F.f.pin b o' ?_, mu := fun b q => ⟨?_, (F.f.mu b q).2⟩, w0 := fun b o' q w => (F.f.w0 b o' ?_ w).2 }, F.lr, F.ow⟩, ⟨hp, fun w => (F.f.w0 a o FC.pinned_same w).1 rfl, fun q => ne a q rfl, nc⟩, F.f.pin a o FC.pinned_same⟩
  · rw [FC.pinned_ne fun e => by rw [e, hp] at q; cases q]; exact q
  · rw [← FC.pinned_ne (ne b q)]; exact (F.f.mu b q).1
  · rw [FC.pinned_ne fun e => by rw [e, hp] at q; cases q]; exact q
theorem FS.pinned (S : FS G d X) (hp : X.pin a = none) : FS G d (X.pinned a o) :=
  ⟨S.g, fun b o' q => by rw [FC.pinned_ne fun e => by have := S.base b o' q; rw [e, hp] at this; cases this]; exact S.base b o' q, S.hd, S.dp, S.un, S.fn, S.gl, S.bi, S.nm, S.cel, S.inj, S.ti⟩
theorem RO.unpin {r : O} {v' : Value} {h : Heap} (x : RO (X.pinned a o) W φ h r v') : RO X W φ h r v' := by
  obtain ⟨p, x, y⟩ := x
  refine ⟨p, x, fun b q => ⟨(y b q).1, (y b q).2.1, ?_⟩⟩
  have z := (y b q).2.2
  rwa [FC.pinned_ne fun e => by rw [e, FC.pinned_same] at z; cases z] at z
end

noncomputable def rangeL (a : Int) (n : Nat) : List V := @Nat.rec (fun _ => Int → List V) (fun _ => []) (fun _ f a => .int a :: f (a + 1)) n a
noncomputable def range2L (a : Int) (n : Nat) : List V := @Nat.rec (fun _ => Int → List V) (fun _ => []) (fun _ f a => .int a :: f (a + 2)) n a
noncomputable def signsL (l : List Nat) : List V := @List.rec Nat (fun _ => List V) [] (fun c _ r => .str [c] :: r) l
inductive ItR (W : WS) (h : Heap) (it : Addr) : List V → Prop
  | list {a : Addr} {vs : Array Value} {n i : Nat} {l : List V} : h.IsListIter it a i → W a → h.get? a = some (lstO vs n) → VRs W h l (vs.toList.drop i) → ItR W h it l
  | rev {a : Addr} {vs : Array Value} {n i : Nat} {l : List V} : h.IsRevIter it a ((i : Int) - 1) → W a → h.get? a = some (lstO vs n) → i ≤ vs.size → VRs W h l (vs.toList.take i).reverse → ItR W h it l
  | range {a : Int} {n : Nat} : IsRangeIter h it a n 1 → ItR W h it (rangeL a n)
  | tup {a : Addr} {vs : Array Value} {n i : Nat} {l : List V} : h.IsTupleIter it a i → W a → h.get? a = some (tupO vs n) → VRs W h l (vs.toList.drop i) → ItR W h it l
  | range2 {a : Int} {n : Nat} : IsRangeIter h it a n 2 → ItR W h it (range2L a n)
  | str {b : Bool} {z : List Nat} {t : Tok} {i : Nat} {l : List V} : h.IsStrIter it (Bool.casesOn b "str_iterator" "str_ascii_iterator") ⟨z.toArray⟩ t i → PyData.strOk ⟨z.toArray⟩ = true → l = signsL (z.drop i) → ItR W h it l
section
variable {X : FC} {W : WS} {φ : Nat → List Addr} {s : Shared} {ρ : Loc} {it : Addr} {E : Value → Shared → Prop}
theorem ItR.ag {h h' : Heap} {W' : WS} {l : List V} (I : ItR W h it l) (g : Ag W h W' h') (e : h'.get? it = h.get? it) : ItR W' h' it l := by
  cases I with
  | list hit w ha r => obtain ⟨o, a, b⟩ := hit; exact .list ⟨o, e.trans a, b⟩ (g.w _ w) ((g.k _ w).trans ha) (r.ag g)
  | rev hit w ha hi r => obtain ⟨o, a, b⟩ := hit; exact .rev ⟨o, e.trans a, b⟩ (g.w _ w) ((g.k _ w).trans ha) hi (r.ag g)
  | range hit => exact .range (e.trans hit)
  | tup hit w ha r => obtain ⟨o, a, b⟩ := hit; exact .tup ⟨o, e.trans a, b⟩ (g.w _ w) ((g.k _ w).trans ha) (r.ag g)
  | range2 hit => exact .range2 (e.trans hit)
  | str hit ok r => obtain ⟨o, a, b⟩ := hit; exact .str ⟨o, e.trans a, b⟩ ok r
theorem ItR.at {h : Heap} {l : List V} (I : ItR W h it l) : ∃ o, h.get? it = some o := by
  cases I with
  | list hit w ha r => obtain ⟨o, a, b⟩ := hit; exact ⟨o, a⟩
  | rev hit w ha hi r => obtain ⟨o, a, b⟩ := hit; exact ⟨o, a⟩
  | range hit => exact ⟨_, hit⟩
  | tup hit w ha r => obtain ⟨o, a, b⟩ := hit; exact ⟨o, a⟩
  | range2 hit => exact ⟨_, hit⟩
  | str hit _ _ => obtain ⟨o, a, b⟩ := hit; exact ⟨o, a⟩
theorem ItR.self {l : List V} {C : Cx} {A : Around} {Q : Value → Shared → Prop} (I : ItR W s.heap it l) (h : Q (.ref it) s) : wpAny C.M A (pyIter (.ref it)) Q E s := by
  cases I with
  | list hit _ _ _ => exact wpAny_pyIter_listiter hit h
  | rev hit _ _ _ _ => exact wpAny_pyIter_revIter hit h
  | range hit => exact wpAny_pyIter_rangeiter hit h
  | tup hit _ _ _ => exact wpAny_pyIter_tupleiter hit h
  | range2 hit => exact wpAny_pyIter_rangeiter hit h
  | @str b _ _ _ _ hit _ _ => cases b with
    | false => exact wpAny_pyIter_striter_wide hit h
    | true => exact wpAny_pyIter_striter_ascii hit h
theorem ItR.next {l : List V} {Q : Option Value → Shared → Prop} (hh : X.A.handled = none) (F : At X W φ s ρ) (f : Fre X W φ it) (I : ItR W s.heap it l)
    (k : ∀ s', At X W φ s' ρ → Ag W s.heap W s'.heap → (∀ b o, b ≠ it → s.heap.get? b = some o → s'.heap.get? b = some o) → @List.casesOn V (fun _ => Prop) l (Q none s') (fun v r => ∀ v', VR W s'.heap v v' → ItR W s'.heap it r → Q (some v') s')) :
    wpAny X.C.M X.A (pyNext (.ref it)) Q E s := by
  have go : ∀ {h' : Heap} {t : Nat}, (∀ b o, b ≠ it → s.heap.get? b = some o → h'.get? b = some o) → Ag W s.heap W h' ∧ @List.casesOn V (fun _ => Prop) l (Q none { s with heap := h', toks := t }) (fun v r => ∀ v', VR W h' v v' → ItR W h' it r → Q (some v') { s with heap := h', toks := t }) := fun hk => by
    obtain ⟨A, B, _⟩ := F.loose f hk; exact ⟨B, k _ A B hk⟩
  have go' : ∀ {h' : Heap} {t : Nat}, Heap.SameBut it s.heap h' → _ := fun {h' t} hs => go (h' := h') (t := t) fun b o q e => (hs.2 b q).trans e
  cases I with
  | @list a vs n i l hit w ha r =>
    cases l with
    | nil =>
      refine wpAny_pyNext_list_end hh hit ⟨_, ha, rfl, _, rfl⟩ ?_ fun h' he' => (go (t := s.toks) fun b o q e => he' b o q e).2
      have := congrArg List.length (show vs.toList.drop i = [] from r)
      rw [List.length_drop, Array.length_toList] at this
      exact Array.getElem?_eq_none (by simp at this; omega)
    | cons v l =>
      obtain ⟨v', r', e, rv, rl⟩ := VRs.inv r
      have hv : vs[i]? = some v' := by rw [← Array.getElem?_toList, ← Nat.add_zero i, ← List.getElem?_drop, e]; rfl
      have hr : r' = vs.toList.drop (i + 1) := by rw [← List.drop_drop, e]; rfl
      refine wpAny_pyNext_list_item hit ⟨_, ha, rfl, _, rfl⟩ hv fun h' hit' hs' => ?_
      obtain ⟨g, k⟩ := go' (t := s.toks) hs'
      exact k v' (rv.ag g) (.list hit' w ((g.k _ w).trans ha) (hr ▸ rl.ag g))
  | @tup a vs n i l hit w ha r =>
    cases l with
    | nil =>
      refine wpAny_pyNext_tuple_end hh hit ⟨_, ha, rfl, _, rfl⟩ ?_ fun h' he' => (go (t := s.toks) fun b o q e => he' b o q e).2
      have := congrArg List.length (show vs.toList.drop i = [] from r)
      rw [List.length_drop, Array.length_toList] at this
      exact Array.getElem?_eq_none (by simp at this; omega)
    | cons v l =>
      obtain ⟨v', r', e, rv, rl⟩ := VRs.inv r
      have hv : vs[i]? = some v' := by rw [← Array.getElem?_toList, ← Nat.add_zero i, ← List.getElem?_drop, e]; rfl
      have hr : r' = vs.toList.drop (i + 1) := by rw [← List.drop_drop, e]; rfl
      refine wpAny_pyNext_tuple_item hit ⟨_, ha, rfl, _, rfl⟩ hv fun h' hit' hs' => ?_
      obtain ⟨g, k⟩ := go' (t := s.toks) hs'
      exact k v' (rv.ag g) (.tup hit' w ((g.k _ w).trans ha) (hr ▸ rl.ag g))
  | @rev a vs n i l hit w ha hi r =>
    cases i with
    | zero =>
      have hl : l = [] := by cases l with
        | nil => rfl
        | cons v l => obtain ⟨_, _, e, _⟩ := VRs.inv r; cases e
      subst hl
      exact wpAny_pyNext_rev_end hh (by simpa using hit) fun h' he' => (go (t := s.toks) fun b o q e => he' b o q e).2
    | succ i =>
      have hlt : i < vs.toList.length := by rw [Array.length_toList]; exact hi
      rw [List.take_succ_eq_append_getElem hlt, List.reverse_append] at r
      cases l with
      | nil => cases (show _ = [] from r)
      | cons v l =>
        obtain ⟨v', r', e, rv, rl⟩ := VRs.inv r
        cases e
        have hit1 : s.heap.IsRevIter it a (i : Int) := by have : ((i + 1 : Nat) : Int) - 1 = i := by omega
                                                          rw [this] at hit; exact hit
        refine wpAny_pyNext_rev_item hit1 ⟨_, ha, rfl, _, rfl⟩ (x := vs.toList[i]) (by simp [hlt]) fun h' hit' hs' => ?_
        obtain ⟨g, k⟩ := go' (t := s.toks) hs'
        exact k _ (rv.ag g) (.rev hit' w ((g.k _ w).trans ha) (Nat.le_of_succ_le hi) (rl.ag g))
  | @range a n hit =>
    cases n with
    | zero => exact wpAny_pyNext_range_end hh hit (by simp) fun h' he' => (go (t := s.toks) fun b o q e => he' b o q e).2
    | succ n =>
      refine wpAny_pyNext_range_item hit (by omega) fun h' hit' hs' => ?_
      obtain ⟨g, k⟩ := go' (t := s.toks + 1) hs'
      refine k _ ⟨_, rfl⟩ (.range ?_)
      have : ((n + 1 : Nat) : Int) - 1 = n := by omega
      rw [this] at hit'; exact hit'
  | @range2 a n hit =>
    cases n with
    | zero => exact wpAny_pyNext_range_end hh hit (by simp) fun h' he' => (go (t := s.toks) fun b o q e => he' b o q e).2
    | succ n =>
      refine wpAny_pyNext_range_item hit (by omega) fun h' hit' hs' => ?_
      obtain ⟨g, k⟩ := go' (t := s.toks + 1) hs'
      refine k _ ⟨_, rfl⟩ (.range2 ?_)
      have : ((n + 1 : Nat) : Int) - 1 = n := by omega
      rw [this] at hit'; exact hit'
  | @str b z t i l hit ok r =>
    cases hz : z.drop i with
    | nil =>
      rw [hz] at r
      subst r
      have hi : z.length ≤ i := by
        have := congrArg List.length hz
        rw [List.length_drop, List.length_nil] at this; omega
      cases b with
      | false => exact wpAny_pyNext_wide_end hh hit (by simp; omega) fun h' he' => (go (t := s.toks) fun b o q e => he' b o q e).2
      | true => exact wpAny_pyNext_ascii_end hh hit (by simp; omega) fun h' he' => (go (t := s.toks) fun b o q e => he' b o q e).2
    | cons c l' =>
      rw [hz] at r
      subst r
      have hc : z[i]? = some c := by rw [← Nat.add_zero i, ← List.getElem?_drop, hz]; rfl
      have hr : l' = z.drop (i + 1) := by rw [← List.drop_drop, hz]; rfl
      have hv : VR W s.heap (.str [c]) (.str ⟨#[c]⟩ s.toks) := ⟨_, rfl, strOk_of ok fun x hx => by simp at hx; subst hx; exact List.mem_of_getElem? hc, by show 1 ≤ sizeLine; decide⟩
      cases b with
      | false =>
        refine wpAny_pyNext_wide_item hit (c := c) (by simpa using hc) fun h' hit' hs' => ?_
        obtain ⟨g, k⟩ := go' (t := s.toks + 1) hs'
        exact k _ (hv.ag g) (.str (b := false) hit' ok (hr ▸ rfl))
      | true =>
        refine wpAny_pyNext_ascii_item hit (c := c) (by simpa using hc) fun h' hit' hs' => ?_
        obtain ⟨g, k⟩ := go' (t := s.toks + 1) hs'
        exact k _ (hv.ag g) (.str (b := true) hit' ok (hr ▸ rfl))
end

def ItG (G : Gl) (d : Nat) (fi : FI) (x : Expr) (ρ : Loc) (l : List V) (ρ' : Loc) : Prop := ∀ (X : FC) (E : Value → Shared → Prop) (W : WS) (φ : Nat → List Addr) (s : Shared), X.fi = fi → FS G d X → At X W φ s ρ →
  ∀ Q : Value → Shared → Prop, (∀ it W' φ' s', Pst X W s W' φ' s' ρ' → Fre X W' φ' it → ItR W' s'.heap it l → Q (.ref it) s') → wpAny X.C.M X.A (eval x X.env) (fun v s₁ => wpAny X.C.M X.A (pyIter v) Q E s₁) E s
structure It (G : Gl) (d : Nat) (fi : FI) where
  x : Expr
  ev : St → Option (List V × St)
  pl : plainX x = true
  eo : Ok ev (ItG G d fi x)
section
variable {G : Gl} {d : Nat} {fi : FI}
theorem Pst.push {X : FC} {W W' : WS} {φ' : Nat → List Addr} {s s' : Shared} {ρ' : Loc} (p : Pst X W s W' φ' s' ρ') (o : Obj) (t : Nat) : Pst X W s W' φ' { s' with heap := s'.heap.push o, toks := t } ρ' ∧ Fre X W' φ' s'.heap.objs.size :=
  ⟨p.trans (.gs p.f (Gs.of p.f.f.wf fun _ _ q => Heap.get?_push_of_some _ q)), .of p.f (fresh_size _)⟩
theorem range_small {a b : Int} (ha : a.natAbs ≤ 1000000) (hb : b.natAbs ≤ 1000000) : Builtin.Range.small a b 1 = true := by
  simp only [Builtin.Range.small, Builtin.Range.rangeFitsLong, Builtin.Range.rangeSize, Bool.and_eq_true, Bool.or_eq_true, decide_eq_true_eq]
  refine ⟨⟨⟨⟨⟨?_, ?_⟩, ?_, ?_⟩, ?_, ?_⟩, ?_, ?_⟩, .inr ?_⟩ <;> (try simp) <;> (try split) <;> (try simp) <;> omega
noncomputable def rangeV (vs : List V) : Option ((Int × Int) × List Prop) := List.casesOn vs none fun v r => v.int?.bind fun a => List.casesOn r (some ((0, a), [a.natAbs ≤ 1000000])) fun u r => u.int?.bind fun b => List.casesOn r (some ((a, b), [a.natAbs ≤ 1000000 ∧ b.natAbs ≤ 1000000])) fun _ _ => none
theorem range_ok {C : Cx} {A : Around} {E : Value → Shared → Prop} {W : WS} {s : Shared} {args : List V} {vals : List Value} {x : Int × Int} {ps : List Prop} {Q : Value → Shared → Prop} (r : VRs W s.heap args vals) (e : rangeV args = some (x, ps)) (q : All ps)
    (k : ∀ t u v tk, Builtin.Range.small x.1 x.2 1 = true → Builtin.Range.rangeSize x.1 x.2 1 = (x.2 - x.1).toNat → (x.2 - x.1).toNat ≤ 2 ^ 24 →
      Q (.ref s.heap.objs.size) { s with heap := s.heap.push { cls := .type "range", data := .fields #[.int x.1 t, .int x.2 u, .int 1 v] }, toks := tk }) : wpAny C.M A (call (.type "range") vals) Q E s := by
  have hsz : ∀ a b : Int, Builtin.Range.rangeSize a b 1 = (b - a).toNat := fun a b => by simp only [Builtin.Range.rangeSize]; simp; split <;> omega
  cases args with
  | nil => cases e
  | cons v args =>
    obtain ⟨v', r', rfl, rv, rr⟩ := VRs.inv r
    obtain ⟨a, e1, e⟩ := Option.bind_eq_some_iff.mp e
    rw [V.int_of e1] at rv
    obtain ⟨t, rfl⟩ := rv
    cases args with
    | nil =>
      cases e; obtain rfl : r' = [] := rr
      have q1 : a.natAbs ≤ 1000000 := q.1
      exact call_range_1 (k _ _ _ _ (range_small (show (0 : Int).natAbs ≤ 1000000 by decide) q1) (hsz _ _) (by dsimp only; omega))
    | cons u args =>
      obtain ⟨u', r2, rfl, ru, rr2⟩ := VRs.inv rr
      obtain ⟨b, e2, e⟩ := Option.bind_eq_some_iff.mp e
      rw [V.int_of e2] at ru
      obtain ⟨t2, rfl⟩ := ru
      cases args with
      | nil =>
        cases e; obtain rfl : r2 = [] := rr2
        have q1 : a.natAbs ≤ 1000000 ∧ b.natAbs ≤ 1000000 := q.1
        exact call_range_2 (k _ _ _ _ (range_small q1.1 q1.2) (hsz _ _) (by dsimp only; omega))
      | cons _ _ => cases e
noncomputable def iRange (r : Rw G d fi) (p' p : Pos) (hb : isBi G fi "range" = true) : It G d fi := ⟨.Call (.Name "range" p') r.xs [] p, fun σ => bd (r.ev σ) fun vs σ => rt ((rangeV vs).bind fun x => some (rangeL x.1.1 (x.1.2 - x.1.1).toNat, x.2)) σ, rfl,
  r.eo.bd (R := fun vs ρ l ρ' => ∃ x ps, rangeV vs = some (x, ps) ∧ All ps ∧ l = rangeL x.1 (x.2 - x.1).toNat ∧ ρ = ρ') (fun vs => .rt fun l ps ρ e q => by
    obtain ⟨x, e1, e⟩ := Option.bind_eq_some_iff.mp e; cases e; exact ⟨x.1, x.2, e1, q, rfl, rfl⟩) fun _ vs _ l _ hs q X E W φ s e S F Q k => by
    obtain ⟨x, ps, q1, q2, rfl, rfl⟩ := q
    refine PyProof.Rows.Call_ (bi_ok S F (e ▸ hb) boot_range ?_)
    rw [r.back]
    refine callW (K := X.C.K) (fun h _ => keeper_type _ h _) (hs.2 X E W φ s e S F _ fun vs' W' φ' s' p' r' => ⟨p'.f.In S, range_ok r' q1 q2 fun t u v tk hsm hn _ => wpAny_pyIter_range (Heap.get?_push_size _ rfl) hsm ?_⟩)
    rw [hn]
    obtain ⟨p2, _⟩ := p'.push { cls := .type "range", data := .fields #[.int x.1 t, .int x.2 u, .int 1 v] } tk
    obtain ⟨p3, f⟩ := p2.push _ tk
    exact k _ _ _ _ p3 f (.range (Heap.get?_push_size _ rfl))⟩
theorem rangeL_length : ∀ (n : Nat) (a : Int), (rangeL a n).length = n
  | 0, _ => rfl
  | n + 1, a => congrArg (· + 1) (rangeL_length n (a + 1))
noncomputable def iStr (a : T G d fi) : It G d fi := ⟨a.x, fun σ => bd (a.ev σ) fun x σ => x.frz.str?.bind fun z => pu (signsL z) σ, a.pl,
  a.eo.bd (R := fun x ρ l ρ' => ∃ z, x.frz = .str z ∧ l = signsL z ∧ ρ = ρ') (fun x σ l σ' e q => by obtain ⟨z, e1, e⟩ := Option.bind_eq_some_iff.mp e; cases e; exact ⟨q, z, V.str_of e1, rfl, rfl⟩) fun _ x _ l _ h q X E W φ s e S F Q k => by
    obtain ⟨z, hx, rfl, rfl⟩ := q
    refine h.v X E W φ s e S F _ fun v' W' φ' s' p' r' => ?_
    rw [hx] at r'
    obtain ⟨t, rfl, ok, _⟩ := r'
    refine wpAny_pyIter_strU ?_
    obtain ⟨p2, f⟩ := p'.push { cls := .type (strIterType ⟨z.toArray⟩), data := .fields #[.str ⟨z.toArray⟩ t, .int 0 0] } s'.toks
    refine k _ _ _ _ p2 f (.str (b := (⟨z.toArray⟩ : Str).cps.all (· < 128)) (z := z) (t := t) (i := 0) ⟨_, Heap.get?_push_size _ rfl, ?_, rfl⟩ ok rfl)
    show Value.type (strIterType _) = _
    unfold strIterType
    cases (⟨z.toArray⟩ : Str).cps.all (· < 128) <;> rfl⟩
noncomputable def range2V (vs : List V) : Option (Int × List Prop) := List.casesOn vs none fun a r => List.casesOn r none fun b r => List.casesOn r none fun c r => List.casesOn r (a.int?.bind fun a => b.int?.bind fun b => c.int?.bind fun c => some (b, [a = 0 ∧ 0 ≤ b ∧ b ≤ 1000000 ∧ c = 2])) fun _ _ => none
noncomputable def iRange2 (r : Rw G d fi) (p' p : Pos) (hb : isBi G fi "range" = true) : It G d fi := ⟨.Call (.Name "range" p') r.xs [] p, fun σ => bd (r.ev σ) fun vs σ => rt ((range2V vs).bind fun x => some (range2L 0 ((x.1.toNat + 1) / 2), x.2)) σ, rfl,
  r.eo.bd (R := fun vs ρ l ρ' => ∃ b, vs = [.int 0, .int b, .int 2] ∧ 0 ≤ b ∧ b ≤ 1000000 ∧ l = range2L 0 ((b.toNat + 1) / 2) ∧ ρ = ρ') (fun vs => .rt fun l ps ρ e q => by
    obtain ⟨x, e1, e⟩ := Option.bind_eq_some_iff.mp e; cases e
    cases vs with
    | nil => cases e1
    | cons a vs =>
    cases vs with
    | nil => cases e1
    | cons b vs =>
    cases vs with
    | nil => cases e1
    | cons c vs =>
    cases vs with
    | cons _ _ => cases e1
    | nil =>
    obtain ⟨i, a1, e1⟩ := Option.bind_eq_some_iff.mp e1
    obtain ⟨j, a2, e1⟩ := Option.bind_eq_some_iff.mp e1
    obtain ⟨k, a3, e1⟩ := Option.bind_eq_some_iff.mp e1
    cases e1
    obtain ⟨rfl, q1, q2, rfl⟩ := q.1
    exact ⟨j, by rw [V.int_of a1, V.int_of a2, V.int_of a3], q1, q2, rfl, rfl⟩) fun _ vs _ l _ hs q X E W φ s e S F Q k => by
    obtain ⟨b, rfl, q1, q2, rfl, rfl⟩ := q
    refine PyProof.Rows.Call_ (bi_ok S F (e ▸ hb) boot_range ?_)
    rw [r.back]
    refine callW (K := X.C.K) (fun h _ => keeper_type _ h _) (hs.2 X E W φ s e S F _ fun vs' W' φ' s' p' r' => ⟨p'.f.In S, ?_⟩)
    obtain ⟨v1, l1, rfl, ⟨t1, rfl⟩, r1⟩ := VRs.inv r'
    obtain ⟨v2, l2, rfl, ⟨t2, rfl⟩, r2⟩ := VRs.inv r1
    obtain ⟨v3, l3, rfl, ⟨t3, rfl⟩, r3⟩ := VRs.inv r2
    obtain rfl : l3 = [] := r3
    have hn : Builtin.Range.rangeSize 0 b 2 = (((b.toNat + 1) / 2 : Nat) : Int) := by
      simp only [Builtin.Range.rangeSize]; simp; split <;> omega
    have hsm : Builtin.Range.small 0 b 2 = true := by
      simp only [Builtin.Range.small, hn, Builtin.Range.rangeFitsLong, Bool.and_eq_true, Bool.or_eq_true, decide_eq_true_eq]
      refine ⟨⟨⟨⟨⟨?_, ?_⟩, ?_, ?_⟩, ?_, ?_⟩, ?_, ?_⟩, .inr ?_⟩ <;> (try simp) <;> omega
    refine call_range_3 (by decide) (wpAny_pyIter_range (Heap.get?_push_size _ rfl) hsm ?_) (Or.inl (PyProof.noPylong_small (by omega)))
    rw [hn]
    obtain ⟨p2, _⟩ := p'.push { cls := .type "range", data := .fields #[.int 0 t1, .int b t2, .int 2 t3] } s'.toks
    obtain ⟨p3, f⟩ := p2.push _ s'.toks
    exact k _ _ _ _ p3 f (.range2 (Heap.get?_push_size _ rfl))⟩
end
end Mine
end

section
open PySem
set_option autoImplicit false
set_option linter.unusedVariables false
namespace Mine
open PySem.W (Looks keepIn)

def FlR (X : FC) (W : WS) (φ : Nat → List Addr) (h : Heap) (fl : Fl) (f : Flow) : Prop := Fl.casesOn fl (f = .next) fun o => ∃ v', f = .ret v' ∧ RO X W φ h o v'
def AfS (X : FC) (W : WS) (s : Shared) (fl : Fl) (ρ' : Loc) (Q : Flow → Shared → Prop) : Prop := ∀ f W' φ' s', At X W' φ' s' ρ' → Ag W s.heap W' s'.heap → FlR X W' φ' s'.heap fl f → Q f s'
section
variable (G : Gl) (d : Nat) (fi : FI)
def ExG (x : Stmt) (ρ : Loc) (fl : Fl) (ρ' : Loc) : Prop := ∀ (X : FC) (E : Value → Shared → Prop) (W : WS) (φ : Nat → List Addr) (s : Shared), X.fi = fi → X.cm = true → FS G d X → At X W φ s ρ →
  ∀ Q : Flow → Shared → Prop, AfS X W s fl ρ' Q → wpAny X.C.M X.A (exec x X.env) Q E s
def ExsG (xs : List Stmt) (ρ : Loc) (fl : Fl) (ρ' : Loc) : Prop := ∀ (X : FC) (E : Value → Shared → Prop) (W : WS) (φ : Nat → List Addr) (s : Shared), X.fi = fi → X.cm = true → FS G d X → At X W φ s ρ →
  ∀ Q : Flow → Shared → Prop, AfS X W s fl ρ' Q → wpAny X.C.M X.A (execs xs X.env) Q E s
def WhilOK (c : Expr) (b : List Stmt) (ρ : Loc) (fl : Fl) (ρ' : Loc) : Prop := ∀ (X : FC) (W : WS) (φ : Nat → List Addr) (s : Shared), X.fi = fi → X.cm = true → FS G d X → At X W φ s ρ →
  ∀ R : Result → Shared → Prop, AfS X W s fl ρ' (fun f s' => R (.ok f) s') → codeAny X.C.M X.A (.whileLoop c b [] X.env) R s
def ForOK (t : Expr) (b : List Stmt) (l : List V) (ρ : Loc) (fl : Fl) (ρ' : Loc) : Prop := ∀ (X : FC) (W : WS) (φ : Nat → List Addr) (s : Shared) (it : Addr), X.fi = fi → X.cm = true → FS G d X → At X W φ s ρ → Fre X W φ it → ItR W s.heap it l →
  ∀ R : Result → Shared → Prop, AfS X W s fl ρ' (fun f s' => R (.ok f) s') → codeAny X.C.M X.A (.forLoop t (.ref it) b [] X.env) R s
end
structure SS (G : Gl) (d : Nat) (fi : FI) where
  x : Stmt
  ex : St → Option (Fl × St)
  eo : Ok ex (ExG G d fi x)
structure SL (G : Gl) (d : Nat) (fi : FI) where
  xs : List Stmt
  ex : St → Option (Fl × St)
  eo : Ok ex (ExsG G d fi xs)

theorem noSwap {x : Expr} (h : isComp x = false) (t : Option Expr) (n : Nat) (env : Env) : swapsWith x t n env = pure false := by
  cases x <;> first | rfl | cases h
theorem noSet {x : Expr} (h : plainX x = true) (env : Env) (v : Value) : foldedSetIterable x env v = pure v := by
  cases x <;> first | rfl | cases h

section
variable {G : Gl} {d : Nat} {fi : FI}
noncomputable def lNil : SL G d fi := ⟨[], pu .next, .pu fun ρ X E W φ s e c S F Q k => wpAny_execs_nil (k _ _ _ _ F (.refl ..) rfl)⟩
noncomputable def lCons (a : SS G d fi) (b : SL G d fi) : SL G d fi := ⟨a.x :: b.xs, fun σ => bd (a.ex σ) fun fl σ => Fl.casesOn fl (b.ex σ) fun o => pu (.ret o) σ,
  a.eo.bd (R := fun f ρ fl ρ' => Fl.casesOn (motive := fun _ => Prop) f (ExsG G d fi b.xs ρ fl ρ') fun o => fl = .ret o ∧ ρ = ρ') (fun f => by
    cases f with
    | next => exact b.eo
    | ret o => exact .pu fun _ => ⟨rfl, rfl⟩) fun ρ f ρ₁ fl ρ' h q X E W φ s e c S F Q k => wpAny_execs_cons (h X E W φ s e c S F _ fun f' W' φ' s' A B C => by
    cases f with
    | next => cases C; exact q X E W' φ' s' e c S A Q fun g W2 φ2 s2 A2 B2 C2 => k _ _ _ _ A2 (B.trans B2) C2
    | ret o =>
      obtain ⟨rfl, rfl⟩ := q
      obtain ⟨v', rfl, r⟩ := C
      exact k _ _ _ _ A B ⟨v', rfl, r⟩)⟩

noncomputable def setL (i : Nat) (o : O) (σ : St) : Option (Fl × St) := some (.next, ⟨σ.ρ.set i (some o), σ.tp, σ.ob⟩)
theorem Ok.setL {i : Nat} {o : O} {S : Loc → Fl → Loc → Prop} (k : ∀ ρ, S ρ .next (ρ.set i (some o))) : Ok (setL i o) S := fun σ a σ' e h => by cases e; exact ⟨h, k _⟩
noncomputable def sAsg (x : Str) (i : Nat) (a : T G d fi) (p' p : Pos) (h : (fi.isOwn x i && !isComp a.x) = true) : SS G d fi := ⟨.Assign [.Name x p'] a.x p, fun σ => bd (a.ev σ) fun o σ => setL i o σ,
  a.eo.bd (R := fun o ρ fl ρ' => fl = .next ∧ ρ' = ρ.set i (some o)) (fun _ => .setL fun _ => ⟨rfl, rfl⟩) fun _ _ _ _ _ ha q X E W φ s e c S F Q k => by
    obtain ⟨rfl, rfl⟩ := q
    rw [Bool.and_eq_true, Bool.not_eq_true'] at h
    exact wpAny_Assign_Name (ha X E W φ s e S F _ fun v' W' φ' s' p' r' => store_ok S (.inr c) p'.f r' (e ▸ h.1) fun φ2 s2 A B => k _ _ _ _ A (p'.ag.trans B) rfl) (noSwap h.2 _ _ _)⟩
noncomputable def sIte (f : Bool) (c : T G d fi) (a b : SL G d fi) (p : Pos) : SS G d fi := ⟨.If c.x a.xs b.xs p, fun σ => bd (c.tr σ) fun t σ => bd (dec f t σ) fun t σ => Bool.casesOn t (b.ex σ) (a.ex σ),
  c.to.bd (R := fun t ρ fl ρ' => Bool.casesOn (motive := fun _ => Prop) t (ExsG G d fi b.xs ρ fl ρ') (ExsG G d fi a.xs ρ fl ρ')) (fun t => (Ok.dec f t).bd (R := fun t ρ fl ρ' => Bool.casesOn (motive := fun _ => Prop) t (ExsG G d fi b.xs ρ fl ρ') (ExsG G d fi a.xs ρ fl ρ')) (fun t => by
    cases t
    · exact b.eo
    · exact a.eo) fun _ t _ _ _ h q => by obtain ⟨rfl, rfl⟩ := h; exact q) fun _ t _ _ _ h q X E W φ s e c S F Q k => wpAny_If (h X E W φ s e S F _ fun W' φ' s' p' => by
    cases t
    · exact q X E W' φ' s' e c S p'.f Q fun g W2 φ2 s2 A2 B2 C2 => k _ _ _ _ A2 (p'.ag.trans B2) C2
    · exact q X E W' φ' s' e c S p'.f Q fun g W2 φ2 s2 A2 B2 C2 => k _ _ _ _ A2 (p'.ag.trans B2) C2)⟩
noncomputable def sRet (a : T G d fi) (p : Pos) : SS G d fi := ⟨.Return (some a.x) p, fun σ => bd (a.ev σ) fun o σ => pu (.ret o) σ,
  a.eo.bd (R := fun o ρ fl ρ' => fl = .ret o ∧ ρ = ρ') (fun _ => .pu fun _ => ⟨rfl, rfl⟩) fun _ _ _ _ _ h q X E W φ s e c S F Q k => by
    obtain ⟨rfl, rfl⟩ := q
    exact wpAny_Return_some (h X E W φ s e S F _ fun v' W' φ' s' p' r' => k _ _ _ _ p'.f p'.ag ⟨_, rfl, r'⟩)⟩
noncomputable def sRetV (x : Str) (i : Nat) (xp p : Pos) (h : fi.isVar x i = true) : SS G d fi := ⟨.Return (some (.Name x xp)) p, fun σ => (slot σ.ρ i).bind fun o => some (.ret o, ⟨σ.ρ.set i none, σ.tp, σ.ob⟩), by
  intro σ a σ' e q
  obtain ⟨o, e1, e⟩ := Option.bind_eq_some_iff.mp e
  cases e
  refine ⟨q, fun X E W φ s ef c S F Q k => wpAny_Return_some (load_ok S F (ef ▸ h) (slot_some e1) fun v' hx hn hv r => ?_)⟩
  have F1 : At X W (upd φ i []) s (σ.ρ.set i none) := F.drop i (fun j o q w => by rwa [List.getElem?_set_ne (Ne.symm q)] at w) fun y hy o w => by
    rw [List.getElem?_set] at w
    split at w
    · split at w <;> cases w
    · rename_i q; exact absurd rfl q
  refine k _ _ _ _ F1 (.refl ..) ⟨_, rfl, φ i, r, fun b q => ?_⟩
  have hm := F.f.mu b (.inr (.inr ⟨i, q⟩))
  obtain ⟨vs, n, he⟩ := F.ow i b q
  have hno := F.f.notOwn he
  refine ⟨hm.2, fun m => ?_, hm.1⟩
  rcases m with m | ⟨_, y, m⟩ | ⟨j, m⟩
  · exact hno.1 m
  · exact hno.2 y m
  · by_cases ej : j = i
    · rw [ej, upd_same] at m; cases m
    · rw [upd_ne _ _ ej] at m; exact ej (F.f.dis j i b m q)⟩
noncomputable def sWhil (c : T G d fi) (b : SL G d fi) (p : Pos) : SS G d fi := ⟨.While c.x b.xs [] p, told Tk.l? (fun ρ x => WhilOK G d fi c.x b.xs ρ x.1 x.2) (·.1) (fun x _ => x.2),
  .told fun x ρ h X E W φ s e cm S F Q k => wpAny_While (h X W φ s e cm S F _ k)⟩
noncomputable def sFor (x : Str) (it : It G d fi) (b : SL G d fi) (p' p : Pos) : SS G d fi := ⟨.For (.Name x p') it.x b.xs [] p, fun σ => bd (it.ev σ) fun l σ => told Tk.l? (fun ρ y => ForOK G d fi (.Name x p') b.xs l ρ y.1 y.2) (·.1) (fun y _ => y.2) σ,
  it.eo.bd (R := fun l ρ fl ρ' => ForOK G d fi (.Name x p') b.xs l ρ fl ρ') (fun l => .told fun y ρ h => h) fun _ l _ _ _ h q X E W φ s e c S F Q k => wpAny_For (h X E W φ s e S F _ fun a W' φ' s' p2 f I => q X W' φ' s' a e c S p2.f f I _ fun g W3 φ3 s3 A B C => k _ _ _ _ A (p2.ag.trans B) C) (noSet it.pl _)⟩
end
end Mine
end

section
open PySem
set_option autoImplicit false
set_option linter.unusedVariables false
namespace Mine
open PySem.W (Looks keepIn)

noncomputable def ownAt (ρ : Loc) (i : Nat) : Option (List V) := (slot ρ i).bind fun o => O.casesOn o (fun _ => none) some
theorem ownAt_some {ρ : Loc} {i : Nat} {r : List V} (e : ownAt ρ i = some r) : ρ[i]? = some (some (.own r)) := by
  obtain ⟨o, e1, e⟩ := Option.bind_eq_some_iff.mp e
  cases o with
  | val v => cases e
  | own r' => cases e; exact slot_some e1
noncomputable def setR (r : List V) (i : Int) (v : V) : Option (List V) := Int.casesOn i (fun n => (r.reverse[n]?).bind fun _ => some (r.reverse.set n v).reverse) (fun n => (r[n]?).bind fun _ => some (r.set n v))
theorem rev_set (r : List V) (n : Nat) (v : V) (h : n < r.length) : (r.set n v).reverse = r.reverse.set (r.length - 1 - n) v := by
  apply List.ext_getElem?
  intro j
  by_cases hj : j < r.length
  · rw [List.getElem?_reverse (by rwa [List.length_set]), List.length_set, List.getElem?_set, List.getElem?_set, List.getElem?_reverse hj]
    by_cases e : n = r.length - 1 - j
    · rw [if_pos e, if_pos (by omega), if_pos (by omega), if_pos (by rw [List.length_reverse]; omega)]
    · rw [if_neg e, if_neg (by omega)]
  · rw [List.getElem?_eq_none (by rw [List.length_reverse, List.length_set]; omega), List.getElem?_eq_none (by rw [List.length_set, List.length_reverse]; omega)]

section
variable {G : Gl} {d : Nat} {fi : FI}
noncomputable def sApp (x : Str) (i : Nat) (a : T G d fi) (xp ap cp p : Pos) (h : (fi.isVar x i && (ap.endLine == cp.line)) = true) : SS G d fi :=
  ⟨.Expr (.Call (.Attribute (.Name x xp) "append" ap) [a.x] [] cp) p, fun σ => (ownAt σ.ρ i).bind fun _ => bd (a.ev σ) fun y σ => (ownAt σ.ρ i).bind fun r => some (.next, ⟨σ.ρ.set i (some (.own (y.frz :: r))), σ.tp, (r.length < room) :: σ.ob⟩), by
    intro σ f σ' e q
    obtain ⟨o0, e0, e⟩ := Option.bind_eq_some_iff.mp e
    obtain ⟨⟨y, σ₁⟩, e1, e⟩ := Option.bind_eq_some_iff.mp e
    obtain ⟨r, e2, e⟩ := Option.bind_eq_some_iff.mp e
    rw [Bool.and_eq_true] at h
    cases e
    obtain ⟨q2, hk⟩ := a.eo σ y σ₁ e1 q.2
    refine ⟨q2, fun X E W φ s ef c S F Q k => wpAny_Expr_any (method_call rfl (fun z q => by cases List.mem_singleton.mp q; exact a.pl) h.2 rfl fun pl => load_ok S F (ef ▸ h.1) (ownAt_some e0) fun x' hx hn hv rr => ?_) (by unfold interactive; rw [S.fn]; rfl) rfl⟩
    obtain ⟨a0, _, rfl, vs0, n0, z0, _⟩ := rr
    refine getMethod_builtin (T := "list") ⟨_, z0, rfl⟩ PySem.F.plainAttrs_list PySem.F.slot_list_append PySem.F.type_list_append (fun a q => by cases q; exact ⟨_, z0, rfl⟩) ?_
    refine callW (K := X.C.K) (fun h _ => keeper_builtin _ h _) (PySem.Calls.spliced_cons (hk.v X E W φ s ef S F _ fun y' W' φ' s' p' r' => PySem.Calls.spliced_nil ⟨p'.f.In S, ?_⟩))
    obtain ⟨ad, hp, ea, vs, n, h1, h2, h3⟩ := still p'.f hx hn (p'.vl _ _ hv) (ownAt_some e2)
    cases ea
    have hs := h2.size
    rw [List.length_reverse] at hs
    refine call_meets PySem.F.slot_list_append ⟨_, h1, rfl⟩ PySem.F.entry_list_append (PySem.F.args_list_append_2 _ _) (list_append a0 vs n _ (by rw [hs]; exact h3)) ⟨h1, ?_⟩
    have q1 : r.length < room := q.1
    have := room_le
    obtain ⟨A, B⟩ := p'.f.turn (x := x) (i := i) (t := s'.toks) (r := y.frz :: r) (h' := s'.heap.update a0 (Obj.mapSeq (·.push y'))) (fun z hz => S.ti z x i hz hx) hp (Heap.SameBut.update ..) (p'.vl _ _ hv) (Heap.get?_update_self _ h1 rfl)
      (by rw [Array.toList_push, List.reverse_cons]; exact h2.snoc r') (by rw [List.length_cons]; omega)
    exact k _ _ _ _ A (p'.ag.trans B) rfl⟩
noncomputable def sSet (x : Str) (i : Nat) (kx a : T G d fi) (xp sp p : Pos) (h : (fi.isVar x i && !isComp a.x) = true) : SS G d fi :=
  ⟨.Assign [.Subscript (.Name x xp) kx.x sp] a.x p, fun σ => bd (a.ev σ) fun y σ => (ownAt σ.ρ i).bind fun _ => bd (kx.ev σ) fun z σ => (ownAt σ.ρ i).bind fun r => z.frz.int?.bind fun j => (setR r j y.frz).bind fun r' => some (.next, ⟨σ.ρ.set i (some (.own r')), σ.tp, σ.ob⟩), by
    intro σ f σ' e q
    obtain ⟨⟨y, σ₁⟩, e1, e⟩ := Option.bind_eq_some_iff.mp e
    obtain ⟨o0, e0, e⟩ := Option.bind_eq_some_iff.mp e
    obtain ⟨⟨z, σ₂⟩, e2, e⟩ := Option.bind_eq_some_iff.mp e
    obtain ⟨r, e3, e⟩ := Option.bind_eq_some_iff.mp e
    obtain ⟨j, e4, e⟩ := Option.bind_eq_some_iff.mp e
    obtain ⟨r', e5, e⟩ := Option.bind_eq_some_iff.mp e
    rw [Bool.and_eq_true, Bool.not_eq_true'] at h
    cases e
    obtain ⟨q1, hz⟩ := kx.eo _ _ _ e2 q
    obtain ⟨q2, hy⟩ := a.eo _ _ _ e1 q1
    refine ⟨q2, fun X E W φ s ef c S F Q k => wpAny_Assign_Subscript (hy.v X E W φ s ef S F _ fun y' W1 φ1 s1 p1 r1 => load_ok S p1.f (ef ▸ h.1) (ownAt_some e0) fun x' hx hn hv rr => hz.v X E W1 φ1 s1 ef S p1.f _ fun z' W2 φ2 s2 p2 r2 => ?_) (noSwap h.2 _ _ _)⟩
    dsimp only at e4; rw [V.int_of e4] at r2
    obtain ⟨t, rfl⟩ := r2
    obtain ⟨ad, hp, rfl, vs, n, h1, h2, h3⟩ := still p2.f hx hn (p2.vl _ _ hv) (ownAt_some e3)
    have hs := h2.size
    rw [List.length_reverse] at hs
    have hsl := sizeLine_lt
    have ry := r1.ag p2.ag
    have fin : ∀ m : Nat, r'.length = r.length → r'.reverse = r.reverse.set m y.frz → Q .next { s2 with heap := s2.heap.update ad (Obj.mapSeq (·.setIfInBounds m y')) } := fun m hl hr => by
      obtain ⟨A, B⟩ := p2.f.turn (x := x) (i := i) (t := s2.toks) (r := r') (h' := s2.heap.update ad (Obj.mapSeq (·.setIfInBounds m y'))) (fun z hz => S.ti z x i hz hx) hp (Heap.SameBut.update ..) (p2.vl _ _ hv) (Heap.get?_update_self _ h1 rfl)
        (by rw [Array.toList_setIfInBounds, hr]; exact h2.set m ry) (by rw [hl]; exact h3)
      exact k _ _ _ _ A ((p1.ag.trans p2.ag).trans B) rfl
    cases j with
    | ofNat m =>
      obtain ⟨w, e6, e5⟩ := Option.bind_eq_some_iff.mp e5
      cases e5
      have hm := (List.getElem?_eq_some_iff.mp e6).1
      rw [List.length_reverse] at hm
      exact PySem.W.ki_setAt h1 (Int.natCast_nonneg m) (by show (m : Int) < _; omega) (by rw [hs]; exact Int.ofNat_lt.mpr hm) (fin m (by simp) (by rw [List.reverse_reverse]))
    | negSucc m =>
      obtain ⟨w, e6, e5⟩ := Option.bind_eq_some_iff.mp e5
      cases e5
      have hm := (List.getElem?_eq_some_iff.mp e6).1
      refine PySem.W.ki_setBack h1 (by omega) (by rw [hs]; omega) (by omega) ?_
      have he : (Int.negSucc m + (vs.size : Int)).toNat = r.length - 1 - m := by rw [hs]; omega
      rw [he]
      exact fin _ (List.length_set ..) (rev_set r m _ hm)⟩

section
variable {M : Model} {A : Around} {R : Result → Shared → Prop} {s : Shared}
theorem code_while {test : Expr} {body : List Stmt} {env : Env} {prog : Program} {w : World}
    (h : wpAny (model prog w) A (isTrue test env (eval test env)) (fun b s₂ =>
        if b then wpAny (model prog w) A (execs body env) (fun f s₃ => match f with
            | .next | .cont => codeAny (model prog w) A (.whileLoop test body [] env) R s₃
            | .brk => R (.ok .next) s₃
            | .ret v => R (.ok (.ret v)) s₃) (notedBy (model prog w) A env fun e s' => R (.error e) s') s₂
        else R (.ok .next) s₂)
        (notedBy (model prog w) A env fun e s' => R (.error e) s') s) : codeAny (model prog w) A (.whileLoop test body [] env) R s := by
  refine codeAny_of_tree ?_
  show wpAny _ A ((whileTurn test body [] env).onRaise (fun x => do noteFrame x env; theTreesLotGoes x)) _ _ s
  refine wpAny_noted ?_
  simp only [whileTurn]
  refine wpAny_bind (wpAny_mono h (fun b s₂ h₂ => ?_) fun _ _ h' => h')
  cases b with
  | false =>
    simp only [Bool.false_eq_true, if_false] at h₂ ⊢
    exact wpAny_bind (wpAny_execs_nil (wpAny_pure h₂))
  | true =>
    simp only [if_true] at h₂ ⊢
    refine wpAny_bind (wpAny_mono h₂ (fun f s₃ h₃ => ?_) fun _ _ h' => h')
    cases f with
    | next => exact wpAny_pure ⟨rfl, h₃⟩
    | cont => exact wpAny_pure ⟨rfl, h₃⟩
    | brk => exact wpAny_pure h₃
    | ret v => exact wpAny_pure h₃
theorem code_for {x : Str} {p' : Pos} {it : Value} {body : List Stmt} {env : Env} {prog : Program} {w : World}
    (h : wpAny (model prog w) A (pyNext it) (fun r s₁ => match r with
      | none => R (.ok .next) s₁
      | some v => wpAny (model prog w) A (storeName env x v) (fun _ s₂ => wpAny (model prog w) A (execs body env) (fun f s₃ => match f with
            | .next | .cont => codeAny (model prog w) A (.forLoop (.Name x p') it body [] env) R s₃
            | .brk => R (.ok .next) s₃
            | .ret v => R (.ok (.ret v)) s₃) (notedBy (model prog w) A env fun e s' => R (.error e) s') s₂) (notedBy (model prog w) A env fun e s' => R (.error e) s') s₁) (notedBy (model prog w) A env fun e s' => R (.error e) s') s) :
    codeAny (model prog w) A (.forLoop (.Name x p') it body [] env) R s := by
  refine codeAny_of_tree ?_
  show wpAny _ A ((forTurn (.Name x p') it body [] env).onRaise (fun x => do noteFrame x env; theTreesLotGoes x)) _ _ s
  refine wpAny_noted ?_
  simp only [forTurn]
  refine wpAny_bind (wpAny_standAt (wpAny_bind (wpAny_onRaise (wpAny_mono h (fun r s₁ h₁ => ?_) fun _ _ h' => wpAny_standAt h'))))
  cases r with
  | none => exact wpAny_pure ⟨rfl, codeAny_block (wpAny_execs_nil h₁)⟩
  | some v =>
    refine wpAny_bind (wpAny_pure ?_)
    refine wpAny_bind (wpAny_mono (wpAny_assign_Name h₁) (fun _ s₂ h₂ => wpAny_bind (wpAny_mono h₂ (fun f s₃ h₃ => ?_) fun _ _ h' => h')) fun _ _ h' => h')
    cases f with
    | next => exact wpAny_pure ⟨rfl, h₃⟩
    | cont => exact wpAny_pure ⟨rfl, h₃⟩
    | brk => exact wpAny_pure h₃
    | ret v => exact wpAny_pure h₃
end
noncomputable def turn (c : T G d fi) (b : SL G d fi) (f : Bool) (σ : St) : Option (Option Fl × St) := bd (c.tr σ) fun t σ => bd (dec f t σ) fun t σ => Bool.casesOn t (pu none σ) (bd (b.ex σ) fun fl σ => pu (some fl) σ)
theorem turn_ok (c : T G d fi) (b : SL G d fi) (f : Bool) : Ok (turn c b f) fun ρ r ρ' => ∀ fl ρ'', Option.casesOn (motive := fun _ => Prop) r (fl = .next ∧ ρ'' = ρ') (fun g => Fl.casesOn (motive := fun _ => Prop) g (WhilOK G d fi c.x b.xs ρ' fl ρ'') fun o => fl = .ret o ∧ ρ'' = ρ') → WhilOK G d fi c.x b.xs ρ fl ρ'' :=
  c.to.bd (R := fun t ρ r ρ' => Bool.casesOn (motive := fun _ => Prop) t (r = none ∧ ρ = ρ') (∃ g, r = some g ∧ ExsG G d fi b.xs ρ g ρ')) (fun t => (Ok.dec f t).bd (R := fun t ρ r ρ' => Bool.casesOn (motive := fun _ => Prop) t (r = none ∧ ρ = ρ') (∃ g, r = some g ∧ ExsG G d fi b.xs ρ g ρ')) (fun t => by
    cases t
    · exact .pu fun _ => ⟨rfl, rfl⟩
    · exact b.eo.bd (R := fun g ρ r ρ' => r = some g ∧ ρ = ρ') (fun g => .pu fun _ => ⟨rfl, rfl⟩) fun _ g _ _ _ h q => by obtain ⟨rfl, rfl⟩ := q; exact ⟨g, rfl, h⟩) fun _ t _ _ _ h q => by obtain ⟨rfl, rfl⟩ := h; exact q)
    fun ρ t ρ₁ r ρ' h q fl ρ'' k X W φ s e cm S F R kk => code_while (h X _ W φ s e S F _ fun W' φ' s' p' => by
      cases t with
      | false =>
        obtain ⟨rfl, rfl⟩ := q
        obtain ⟨rfl, rfl⟩ := k
        exact kk _ _ _ _ p'.f p'.ag rfl
      | true =>
        obtain ⟨g, rfl, hb⟩ := q
        refine hb X _ W' φ' s' e cm S p'.f _ fun f W2 φ2 s2 A2 B2 C2 => ?_
        cases g with
        | next => cases C2; exact k X W2 φ2 s2 e cm S A2 R fun f W3 φ3 s3 A3 B3 C3 => kk _ _ _ _ A3 ((p'.ag.trans B2).trans B3) C3
        | ret o =>
          obtain ⟨rfl, rfl⟩ := k
          obtain ⟨v', rfl, ro⟩ := C2
          exact kk _ _ _ _ A2 (p'.ag.trans B2) ⟨v', rfl, ro⟩)
theorem for_nil {x : Str} {p' : Pos} {b : List Stmt} {ρ : Loc} : ForOK G d fi (.Name x p') b [] ρ .next ρ := fun X W φ s it e cm S F f I R k =>
  code_for (I.next S.hd F f fun s' A B C => k _ _ _ _ A B rfl)
theorem for_ok {x : Str} {p' : Pos} {i : Nat} (hx : fi.isOwn x i = true) (b : SL G d fi) (v : V) (l : List V) : Ok (fun σ => b.ex ⟨σ.ρ.set i (some (.val v)), σ.tp, σ.ob⟩) fun ρ g ρ' => ∀ fl ρ'', Fl.casesOn (motive := fun _ => Prop) g (ForOK G d fi (.Name x p') b.xs l ρ' fl ρ'') (fun o => fl = .ret o ∧ ρ'' = ρ') → ForOK G d fi (.Name x p') b.xs (v :: l) ρ fl ρ'' := by
  intro σ g σ' e q
  obtain ⟨q1, hb⟩ := b.eo _ _ _ e q
  refine ⟨q1, fun fl ρ'' k X W φ s it ef cm S F f I R kk => code_for (I.next S.hd F f fun s' A B C => fun v' rv I' => ?_)⟩
  obtain ⟨o, ho⟩ := I'.at
  refine store_ok (X := X.pinned it o) (S.pinned f.pin) (.inr cm) (A.pinned f ho) (.val rv) (ef ▸ hx) fun φ2 s2 A2 B2 => ?_
  refine hb (X.pinned it o) _ W φ2 s2 ef cm (S.pinned f.pin) A2 _ fun g' W3 φ3 s3 A3 B3 C3 => ?_
  obtain ⟨A4, f4, h4⟩ := A3.unpin f.pin f.nc
  have ag := B2.trans B3
  cases g with
  | next => cases C3; exact k X W3 φ3 s3 it ef cm S A4 f4 (I'.ag ag (h4.trans ho.symm)) R fun f W3 φ3 s3 A3 B3 C3 => kk _ _ _ _ A3 ((B.trans ag).trans B3) C3
  | ret r =>
    obtain ⟨rfl, rfl⟩ := k
    obtain ⟨v', rfl, ro⟩ := C3
    exact kk _ _ _ _ A4 (B.trans ag) ⟨v', rfl, ro.unpin⟩

theorem cellsFrom_acc : ∀ (names : List (Str × NameKind)) (n : Nat) (acc : List (Str × Addr)) (x : Str), (acc.lookup x).isSome = true → ((cellsFrom n names acc).lookup x).isSome = true
  | [], _, _, _, h => h
  | (y, k) :: r, n, acc, x, h => by
    unfold cellsFrom
    split
    · refine cellsFrom_acc r _ _ x ?_
      rw [List.lookup_cons]; split <;> first | rfl | exact h
    · exact cellsFrom_acc r n acc x h
theorem cellsFrom_has : ∀ (names : List (Str × NameKind)) (n : Nat) (acc : List (Str × Addr)) (x : Str), names.lookup x = some .cell → ((cellsFrom n names acc).lookup x).isSome = true
  | [], _, _, _, h => by cases h
  | (y, k) :: r, n, acc, x, h => by
    rw [List.lookup_cons] at h
    unfold cellsFrom
    cases q : x == y with
    | true =>
      rw [q] at h; cases h
      rw [if_pos (by decide)]
      refine cellsFrom_acc r _ _ x ?_
      rw [List.lookup_cons, q]; rfl
    | false =>
      rw [q] at h
      split <;> exact cellsFrom_has r _ _ x h
section
variable {kindOf : Str → Option NameKind}
theorem bindL_not {q : Str} : ∀ (ps : List Str) (vals : List Value) (m : Str → Option Value), q ∉ ps → bindL kindOf (ps.zip vals) m q = m q
  | [], _, _, _ => rfl
  | _ :: _, [], _, _ => rfl
  | a :: ps, b :: vals, m, hq => by
    rw [List.zip_cons_cons, bindL, bindL_not ps vals _ fun z => hq (List.mem_cons_of_mem _ z)]
    split
    · exact if_neg (fun e : q = a => hq (e ▸ List.mem_cons_self))
    · rfl
theorem bindC_not {q : Str} : ∀ (ps : List Str) (vals : List Value) (m : Str → Option Value), q ∉ ps → bindC kindOf (ps.zip vals) m q = m q
  | [], _, _, _ => rfl
  | _ :: _, [], _, _ => rfl
  | a :: ps, b :: vals, m, hq => by
    rw [List.zip_cons_cons, bindC, bindC_not ps vals _ fun z => hq (List.mem_cons_of_mem _ z)]
    split
    · rfl
    · exact if_neg (fun e : q = a => hq (e ▸ List.mem_cons_self))
theorem bindL_lookup : ∀ (ps : List Str) (vals : List Value) (m : Str → Option Value) (i : Nat) (p : Str) (v : Value), ps.Nodup → ps[i]? = some p → vals[i]? = some v → kindOf p = some .local → bindL kindOf (ps.zip vals) m p = some v
  | [], _, _, _, _, _, _, h, _, _ => nomatch h
  | q :: ps, [], _, i, _, _, _, _, h, _ => nomatch h
  | q :: ps, u :: vals, m, 0, p, v, hn, h1, h2, hk => by
    cases h1; cases h2
    rw [List.zip_cons_cons, bindL, if_pos hk, bindL_not _ _ _ (List.nodup_cons.mp hn).1]; exact if_pos rfl
  | q :: ps, u :: vals, m, i + 1, p, v, hn, h1, h2, hk => by
    rw [List.zip_cons_cons, bindL]
    exact bindL_lookup ps vals _ i p v (List.nodup_cons.mp hn).2 h1 h2 hk
theorem bindC_lookup : ∀ (ps : List Str) (vals : List Value) (m : Str → Option Value) (i : Nat) (p : Str) (v : Value), ps.Nodup → ps[i]? = some p → vals[i]? = some v → kindOf p ≠ some .local → bindC kindOf (ps.zip vals) m p = some v
  | [], _, _, _, _, _, _, h, _, _ => nomatch h
  | q :: ps, [], _, i, _, _, _, _, h, _ => nomatch h
  | q :: ps, u :: vals, m, 0, p, v, hn, h1, h2, hk => by
    cases h1; cases h2
    rw [List.zip_cons_cons, bindC, if_neg hk, bindC_not _ _ _ (List.nodup_cons.mp hn).1]; exact if_pos rfl
  | q :: ps, u :: vals, m, i + 1, p, v, hn, h1, h2, hk => by
    rw [List.zip_cons_cons, bindC]
    exact bindC_lookup ps vals _ i p v (List.nodup_cons.mp hn).2 h1 h2 hk
end
noncomputable def loc0 (args : List V) (n : Nat) : Loc := args.map (fun v => some (.val v)) ++ List.replicate n none
theorem call_gen {a : Addr} {f : FD} {args : List V} {n : Nat} (hf : G.fd.lookup a = some f) (hn : args.length = f.ps.length) {C : Cx} {A : Around} {W : WS} {s : Shared} {vals : List Value} {R : Result → Shared → Prop} (g : GOk G C) (hh : A.handled = none) (hdp : A.depth + 2 * (d + 1) + 9 ≤ recursionLimit)
    (hun : A.units + 20 * (d + 1) + deep + 90 < cLine) (hkeep : ∀ b o, C.h.get? b = some o → s.heap.get? b = some o) (hgens : s.gens = #[]) (hos : s.os = C.os) (wf : ∀ a, W a → ∃ o, s.heap.get? a = some o) (r : VRs W s.heap args vals)
    (h : ∀ env s₁, env.frame = some env.locals → env.locals = s.heap.objs.size → FS G d ⟨C, A.deeper env, env, f.fi, s.heap.get?, W, true⟩ → At ⟨C, A.deeper env, env, f.fi, s.heap.get?, W, true⟩ W (fun _ => []) s₁ (loc0 args n) →
      wpAny C.M (A.deeper env) (execs f.st env) (fun f s' => R (.ok (.ret (match f with | .ret v => v | _ => .none))) s') (fun e s' => wpAny C.M (A.deeper env) (leaving env e) (fun _ s'' => R (.error e) s'') (fun e' s'' => R (.error e') s'') s') s₁) :
    codeAny C.M A (.call (.ref a) ⟨vals, []⟩) R s := by
  obtain ⟨ob, fd, fo⟩ := g.fd a f hf
  have hlen : vals.length = f.ps.length := r.length.trans hn
  have hkind : ∀ x ∈ f.ps.zip vals, fd.scope.names.lookup x.1 = some .local ∨ (fd.scope.names.lookup x.1 = some .cell ∧ ((cellsFrom (s.heap.objs.size + 1) fd.scope.names []).lookup x.1).isSome = true) := fun x hx => by
    rw [fo.names]
    rcases fo.own x.1 (List.of_mem_zip hx).1 with q | q
    · exact .inl q
    · exact .inr ⟨q, cellsFrom_has _ _ _ _ q⟩
  refine codeAny_call_cells (by omega) (hkeep _ _ fo.at_) fo.dat (g.nolimit.keeps hkeep) (fo.rec_.keeps hkeep) fo.body (fo.bind vals hlen) fo.clo hkind (fun s₁ IC => ?_) fo.co fo.gen fo.kind
  generalize he : callEnvC fd s.heap.objs.size a = env at IC ⊢
  have hL : env.locals = s.heap.objs.size := by rw [← he]; rfl
  have hNm : env.scope.names = f.fi.names := by rw [← he]; exact fo.names
  have hcs : env.cells = cellsFrom (s.heap.objs.size + 1) fd.scope.names [] := by rw [← he]; rfl
  obtain ⟨h₁, tk, rfl⟩ := IC.toInCall.same
  have hk := IC.toInCall.keep
  have cAbove : ∀ x c, env.cells.lookup x = some c → s.heap.objs.size ≤ c := fun x c hc => by
    have := IC.above x c (mem_of_lookup hc); rw [hL] at this; exact Nat.le_of_lt this
  have hko : ∀ x, env.kindOf x = f.fi.names.lookup x := fun x => by unfold Env.kindOf; rw [hNm]
  let X : FC := ⟨C, A.deeper env, env, f.fi, s.heap.get?, W, true⟩
  have S : FS G d X := by
    refine ⟨g, hkeep, hh, ?_, ?_, ?_, ?_, ?_, hNm, ?_, ?_, fo.inj⟩
    · show A.depth + 1 + 2 * d + 10 ≤ _; omega
    · show A.units + 3 + 20 * d + deep + 100 < _; omega
    · show env.scope.kind = _; rw [← he]; exact fo.kind
    · show env.globals = _; rw [← he]; exact fo.gl
    · show env.builtins = _; rw [← he]; exact fo.bi
    · rintro x (q | q)
      · have q : f.fi.names.lookup x = some .cell := q
        rw [← fo.names] at q
        have := cellsFrom_has fd.scope.names (s.heap.objs.size + 1) [] x q
        rw [← hcs] at this
        exact Option.isSome_iff_exists.mp this
      · exact absurd rfl (fo.free _ (mem_of_lookup q))
    · intro x y c hx hy; exact name_of_addr IC.apart (mem_of_lookup hx) (mem_of_lookup hy)
  have gs : Gs W s W { s with heap := h₁, toks := tk } := Gs.of wf hk
  have nof : ∀ b, s.heap.objs.size ≤ b → s.heap.get? b = none ∧ ¬ W b := fun b q => ⟨none_of_le q, fun w => by obtain ⟨_, z⟩ := wf b w; rw [none_of_le q] at z; cases z⟩
  have F : At X W (fun _ => []) { s with heap := h₁, toks := tk } (loc0 args n) := by
    refine ⟨hgens, hos, ⟨hk, ?_, gs.g.wf, fun _ _ _ q => q, fun _ _ _ q => (by cases q), ?_, ?_⟩, ?_, fun _ _ q => (by cases q)⟩
    · rintro b (q | ⟨_, x, q⟩ | ⟨i, q⟩)
      · exact nof b (by rw [show b = env.locals from q, hL]; exact Nat.le_refl _)
      · exact nof b (cAbove x b q)
      · cases q
    · obtain ⟨o, es, ep, h1, h2, h3, _⟩ := IC.toInCall.ns; exact ⟨o, es, ep, h1, h2, h3⟩
    · intro x c hc; obtain ⟨o, h1, h2⟩ := IC.cell x c hc; exact ⟨o, _, h1, h2⟩
    · intro x i hx w hw hkd
      have hx : f.fi.tbl.lookup x = some i := hx
      unfold loc0 at hw
      have hi : i < args.length := by
        rcases Nat.lt_or_ge i args.length with q | q
        · exact q
        · rw [List.getElem?_append_right (by rwa [List.length_map]), List.getElem?_replicate] at hw
          split at hw <;> cases hw
      rw [List.getElem?_append_left (by rwa [List.length_map]), List.getElem?_map, Option.map_eq_some_iff] at hw
      obtain ⟨w', hw1, hw2⟩ := hw
      cases hw2
      obtain ⟨u, hu, hr⟩ := r.get hw1
      obtain ⟨p, hp⟩ : ∃ p, f.ps[i]? = some p := ⟨_, List.getElem?_eq_getElem (by rw [← hn]; exact hi)⟩
      obtain rfl : x = p := fo.inj x p i hx (fo.at0 i p hp)
      refine ⟨u, ?_, rfl, hr.ag (gs.g.ag wf)⟩
      rcases fo.own x (List.mem_of_getElem? hp) with q | q
      · exact .inl ⟨(hko x).trans q, _, IC.toInCall.ns, bindL_lookup f.ps vals _ i x u fo.nodup hp hu ((hko x).trans q)⟩
      · have hc := cellsFrom_has fd.scope.names (s.heap.objs.size + 1) [] x (by rw [fo.names]; exact q)
        rw [← hcs] at hc
        obtain ⟨c, hc⟩ := Option.isSome_iff_exists.mp hc
        refine .inr ⟨.inl ((hko x).trans q), c, hc, ?_⟩
        have := IC.cell x c hc
        rw [bindC_lookup f.ps vals _ i x u fo.nodup hp hu (by rw [hko, q]; decide)] at this
        exact this
  exact h env _ (by rw [← he]; rfl) hL S F
theorem call_of {a : Addr} {f : FD} {args : List V} {o : O} {n : Nat} {g : Fl} {ρ' : Loc} (hf : G.fd.lookup a = some f) (hn : args.length = f.ps.length) (h : ExsG G d f.fi f.st (loc0 args n) g ρ') (hg : g = .ret o ∨ (g = .next ∧ o = .val .none)) : CallOK G (d + 1) a args o := by
  intro C A W s vals R g hh hdp hun hkeep hgens hos wf r k
  refine call_gen (n := n) hf hn g hh hdp hun hkeep hgens hos wf r fun env s₁ _ _ S F => ?_
  refine h ⟨C, A.deeper env, env, f.fi, s.heap.get?, W, true⟩ _ W _ _ rfl rfl S F _ fun fw W' φ' s' A' B' C' => ?_
  have gs' : Gs W s W' s' := ⟨⟨fun b o e => A'.f.pin b o e, fun a q => B'.w a q, A'.f.wf, fun b o e q => A'.f.w0 b o e q⟩, A'.gens.trans hgens.symm, A'.os.trans hos.symm⟩
  rcases hg with rfl | ⟨rfl, rfl⟩
  · obtain ⟨v', rfl, p, ro, hp⟩ := C'
    refine k v' W' s' gs' ?_
    cases o with
    | val v => exact ro.2
    | own r' =>
      obtain ⟨b, rfl, rfl, z⟩ := ro
      obtain ⟨w1, _, w3⟩ := hp b List.mem_cons_self
      exact ⟨b, rfl, w3, w1, z⟩
  · cases C'
    exact k _ W' s' gs' rfl
end
end Mine
end

section
open PySem
set_option autoImplicit false
set_option linter.unusedVariables false
namespace Mine
open PySem.W (Looks keepIn)

def relab (outer names : List (Str × NameKind)) : List (Str × NameKind) := names.map fun (n, k) => if (k == .free && outer.lookup n == some .cell) then (n, .cell) else (n, k)
def FI.inner (fi : FI) (sc : Scope) (x : Str) (i : Nat) : FI := ⟨relab fi.names sc.names, (x, i) :: fi.tbl⟩
def compName (fi : FI) (sc : Scope) (x : Str) (y : Str × NameKind) : Bool := match y.2 with
  | .local => sc.names.lookup y.1 == some .local && (y.1 == x || (fi.tbl.lookup y.1).isNone)
  | .free => sc.names.lookup y.1 == some .free && (fi.names.lookup y.1 == some .cell || fi.names.lookup y.1 == some .free)
  | .cell => false
  | _ => (fi.tbl.lookup y.1).isNone
def compOk (fi : FI) (sc : Scope) (x : Str) (i : Nat) : Bool := sc.kind == .function && sc.names.lookup x == some .local && (sc.names.all (compName fi sc x)) && (fi.tbl.all fun p => p.2 != i)
theorem relab_lookup (outer : List (Str × NameKind)) (y : Str) : ∀ names : List (Str × NameKind), (relab outer names).lookup y = (names.lookup y).map fun k => if (k == .free && outer.lookup y == some .cell) then .cell else k
  | [] => rfl
  | (n, k) :: r => by
    have ih := relab_lookup outer y r
    show List.lookup y ((if (k == .free && outer.lookup n == some .cell) then (n, .cell) else (n, k)) :: relab outer r) = _
    have e : (if (k == .free && outer.lookup n == some .cell) then (n, NameKind.cell) else (n, k)) = (n, if (k == .free && outer.lookup n == some .cell) then NameKind.cell else k) := by split <;> rfl
    rw [e, List.lookup_cons, List.lookup_cons, ih]
    cases q : y == n with
    | true => rw [beq_iff_eq.mp q]; rfl
    | false => rfl
theorem relabel_names {fi : FI} {env : Env} (sc : Scope) (hf : env.scope.kind = .function) (hn : env.scope.names = fi.names) : (relabel sc env).names = relab fi.names sc.names := by
  unfold relabel relab
  simp only [hf, Env.kindOf, hn, beq_self_eq_true, Bool.and_true]
structure CompC (fi : FI) (sc : Scope) (x : Str) (i : Nat) : Prop where
  kind : sc.kind = .function
  own : sc.names.lookup x = some .local
  names : ∀ y, y ∈ sc.names → compName fi sc x y = true
  new : ∀ y j, fi.tbl.lookup y = some j → j ≠ i
theorem CompC.of {fi : FI} {sc : Scope} {x : Str} {i : Nat} (h : compOk fi sc x i = true) : CompC fi sc x i := by
  simp only [compOk, Bool.and_eq_true, beq_iff_eq, List.all_eq_true, bne_iff_ne, ne_eq] at h
  exact ⟨h.1.1.1, h.1.1.2, h.1.2, fun y j hy => h.2 (y, j) (mem_of_lookup hy)⟩
section
variable {fi : FI} {sc : Scope} {x : Str} {i : Nat}
theorem CompC.cell (h : CompC fi sc x i) : ∀ y ∈ sc.names, y.2 ≠ .cell := fun y hy q => by
  have := h.names y hy; unfold compName at this; rw [q] at this; cases this
theorem CompC.local (h : CompC fi sc x i) : ∀ y ∈ sc.names, y.2 = .local → sc.names.lookup y.1 = some .local := fun y hy q => by
  have := h.names y hy; unfold compName at this; rw [q] at this
  exact beq_iff_eq.mp (Bool.and_eq_true_iff.mp this).1
theorem CompC.free (h : CompC fi sc x i) {y : Str} (hy : sc.names.lookup y = some .free) : fi.names.lookup y = some .cell ∨ fi.names.lookup y = some .free := by
  have := h.names _ (mem_of_lookup hy); unfold compName at this
  simp only [Bool.and_eq_true, beq_iff_eq, Bool.or_eq_true] at this; exact this.2
theorem CompC.isFree (h : CompC fi sc x i) {y : Str} {j : Nat} (hne : y ≠ x) (hy : fi.tbl.lookup y = some j) (hk : (fi.inner sc x i).names.lookup y ≠ none) : sc.names.lookup y = some .free := by
  have hk : (relab fi.names sc.names).lookup y ≠ none := hk
  rw [relab_lookup] at hk
  cases z : sc.names.lookup y with
  | none => rw [z] at hk; exact absurd rfl hk
  | some kd =>
    have := h.names _ (mem_of_lookup z)
    unfold compName at this
    cases kd with
    | free => rfl
    | cell => cases this
    | «local» =>
      simp only [Bool.and_eq_true, Bool.or_eq_true, beq_iff_eq] at this
      rcases this.2 with z1 | z1
      · exact absurd z1 hne
      · rw [hy] at z1; cases z1
    | globalExplicit => dsimp only at this; rw [hy] at this; cases this
    | globalImplicit => dsimp only at this; rw [hy] at this; cases this
theorem CompC.cells (h : CompC fi sc x i) {y : Str} (hy : (fi.inner sc x i).names.lookup y = some .cell ∨ (fi.inner sc x i).names.lookup y = some .free) : sc.names.lookup y = some .free := by
  have hy : (relab fi.names sc.names).lookup y = some .cell ∨ (relab fi.names sc.names).lookup y = some .free := hy
  rw [relab_lookup] at hy
  cases z : sc.names.lookup y with
  | none => rw [z] at hy; rcases hy with q | q <;> cases q
  | some kd =>
    rw [z] at hy
    cases kd with
    | free => rfl
    | cell => exact absurd rfl (h.cell _ (mem_of_lookup z))
    | _ => rcases hy with q | q <;> cases q
end
theorem closure_ok (env : Env) : ∀ (names : List (Str × NameKind)), (∀ y ∈ names, y.2 = .free → ∃ c, env.cells.lookup y.1 = some c) → ∀ acc : List (Str × Addr),
    ∃ cl : List (Str × Addr), (forIn names acc fun (y : Str × NameKind) cs => if (y.2 == NameKind.free) = true then do let a ← cellOf env y.1; pure (ForInStep.yield ((y.1, a) :: cs)) else pure (ForInStep.yield cs) : Sem (List (Str × Addr))) = pure cl ∧
      (∀ n c, (n, c) ∈ cl → (n, c) ∈ acc ∨ env.cells.lookup n = some c) ∧ (∀ y ∈ names, y.2 = .free → (cl.lookup y.1).isSome = true) ∧ (∀ n, (acc.lookup n).isSome = true → (cl.lookup n).isSome = true)
  | [], _, acc => ⟨acc, rfl, fun n c h => .inl h, fun y h => (by cases h), fun n h => h⟩
  | (n, k) :: r, h, acc => by
    by_cases q : k = .free
    · subst q
      obtain ⟨c, hc⟩ := h (n, .free) List.mem_cons_self rfl
      obtain ⟨cl, e, h1, h2, h3⟩ := closure_ok env r (fun y hy => h y (List.mem_cons_of_mem _ hy)) ((n, c) :: acc)
      refine ⟨cl, ?_, fun m d hd => ?_, fun y hy hk => ?_, fun m hm => h3 m ?_⟩
      · rw [List.forIn_cons]
        have e1 : cellOf env n = pure c := by unfold cellOf; rw [hc]
        simp only [beq_self_eq_true, if_true, e1]
        exact e
      · rcases h1 m d hd with z | z
        · rcases List.mem_cons.mp z with z | z
          · cases z; exact .inr hc
          · exact .inl z
        · exact .inr z
      · rcases List.mem_cons.mp hy with z | z
        · subst z; exact h3 n (by rw [List.lookup_cons, beq_self_eq_true]; rfl)
        · exact h2 y z hk
      · rw [List.lookup_cons]; split <;> first | rfl | exact hm
    · obtain ⟨cl, e, h1, h2, h3⟩ := closure_ok env r (fun y hy => h y (List.mem_cons_of_mem _ hy)) acc
      refine ⟨cl, ?_, h1, fun y hy hk => ?_, h3⟩
      · rw [List.forIn_cons]
        have : (k == NameKind.free) = false := by simpa using q
        simp only [this, Bool.false_eq_true, if_false]
        exact e
      · rcases List.mem_cons.mp hy with z | z
        · subst z; exact absurd hk q
        · exact h2 y z hk
theorem closureFor_ok {env : Env} {scope : Scope} (h : ∀ y ∈ scope.names, y.2 = .free → ∃ c, env.cells.lookup y.1 = some c) :
    ∃ cl : List (Str × Addr), closureFor scope env = pure cl ∧ (∀ n c, cl.lookup n = some c → env.cells.lookup n = some c) ∧ (∀ y ∈ scope.names, y.2 = .free → (cl.lookup y.1).isSome = true) := by
  obtain ⟨cl, e, h1, h2, _⟩ := closure_ok env scope.names h []
  refine ⟨cl, ?_, fun n c hc => (h1 n c (mem_of_lookup hc)).elim (fun z => nomatch z) id, h2⟩
  have : closureFor scope env = (forIn scope.names ([] : List (Str × Addr)) fun (y : Str × NameKind) cs => if (y.2 == NameKind.free) = true then do let a ← cellOf env y.1; pure (ForInStep.yield ((y.1, a) :: cs)) else pure (ForInStep.yield cs) : Sem (List (Str × Addr))) >>= fun cs => pure cs := rfl
  rw [this, e]; rfl

section
variable {A : Around} {R : Result → Shared → Prop} {s : Shared}
noncomputable def TestsW (M : Model) (A : Around) (E : Value → Shared → Prop) (env : Env) (cs : List Expr) (Q : Bool → Shared → Prop) (s : Shared) : Prop := List.casesOn cs (Q true s) fun c cs => List.casesOn cs (wpAny M A (isTrue c env (eval c env)) Q E s) fun _ _ => False
theorem code_comp {elt iter : Expr} {cs : List Expr} {x : Str} {px : Pos} {scope : Scope} {pos : Pos} {it acc : Value} {env : Env} {prog : Program} {w : World}
    (h : wpAny (model prog w) A (pyNext it) (fun r s₁ => match r with
      | none => R (.ok .next) s₁
      | some v => wpAny (model prog w) A (storeName env x v) (fun _ s₂ => TestsW (model prog w) A (notedBy (model prog w) A env fun e s' => R (.error e) s') env cs (fun ok s₃ => Bool.casesOn (motive := fun _ => Prop) ok (codeAny (model prog w) A (.compLoop (.ListComp elt [⟨.Name x px, iter, cs, 0⟩] scope pos) 0 it acc env) R s₃) (wpAny (model prog w) A (eval elt env) (fun y s₄ =>
              wpAny (model prog w) A (call (.builtin "list.append") [acc, y]) (fun _ s₅ => codeAny (model prog w) A (.compLoop (.ListComp elt [⟨.Name x px, iter, cs, 0⟩] scope pos) 0 it acc env) R s₅) (notedBy (model prog w) A env fun e s' => R (.error e) s') s₄) (notedBy (model prog w) A env fun e s' => R (.error e) s') s₃)) s₂) (notedBy (model prog w) A env fun e s' => R (.error e) s') s₁) (notedBy (model prog w) A env fun e s' => R (.error e) s') s) :
    codeAny (model prog w) A (.compLoop (.ListComp elt [⟨.Name x px, iter, cs, 0⟩] scope pos) 0 it acc env) R s := by
  refine codeAny_of_tree ?_
  show wpAny _ A ((compTurn (.ListComp elt [⟨.Name x px, iter, cs, 0⟩] scope pos) 0 it acc env).onRaise (fun x => do noteFrame x env; theTreesLotGoes x)) _ _ s
  refine wpAny_noted ?_
  rw [compTurn_list]
  refine wpAny_bind (wpAny_standAt (wpAny_bind (wpAny_mono h (fun r s₁ h₁ => ?_) fun _ _ h' => h')))
  cases r with
  | none => exact wpAny_pure h₁
  | some v =>
    refine wpAny_bind (wpAny_pure ?_)
    refine wpAny_bind (wpAny_mono (wpAny_assign_Name h₁) (fun _ s₂ h₂ => ?_) fun _ _ h' => h')
    cases cs with
    | nil =>
      refine wpAny_bind (wpAny_tests_nil ?_)
      exact wpAny_bind (wpAny_bind (wpAny_mono h₂ (fun x s₄ h₄ => wpAny_bind (wpAny_mono h₄ (fun _ s₅ h₅ => wpAny_pure (wpAny_pure ⟨rfl, h₅⟩)) fun _ _ h' => h')) fun _ _ h' => h'))
    | cons c cs =>
      cases cs with
      | nil =>
        refine wpAny_bind (wpAny_tests_one (wpAny_mono h₂ (fun ok s₃ h₃ => ?_) fun _ _ h' => h'))
        cases ok with
        | true => exact wpAny_bind (wpAny_bind (wpAny_mono h₃ (fun x s₄ h₄ => wpAny_bind (wpAny_mono h₄ (fun _ s₅ h₅ => wpAny_pure (wpAny_pure ⟨rfl, h₅⟩)) fun _ _ h' => h')) fun _ _ h' => h'))
        | false => exact wpAny_bind (wpAny_pure (wpAny_pure ⟨rfl, h₃⟩))
      | cons => cases h₂
end

noncomputable def TestsG (G : Gl) (d : Nat) (fi : FI) (cs : List Expr) (ρ : Loc) (t : Bool) : Prop := List.casesOn cs (t = true) fun c cs => List.casesOn cs (TrG G d fi c ρ t ρ) fun _ _ => False
noncomputable def CompI (G : Gl) (d : Nat) (fi : FI) (cs : List Expr) (elt : Expr) (i : Nat) (ρ : Loc) (l vs : List V) : Prop :=
  @List.rec V (fun _ => List V → Prop) (fun vs => vs = []) (fun v _ ih vs => (∃ w r, vs = w :: r ∧ TestsG G d fi cs (ρ.set i (some (.val v))) true ∧ EvV G d fi elt (ρ.set i (some (.val v))) w (ρ.set i (some (.val v))) ∧ ih r) ∨ (TestsG G d fi cs (ρ.set i (some (.val v))) false ∧ ih vs)) l vs
abbrev CompL (G : Gl) (d : Nat) (fi : FI) (elt : Expr) (i : Nat) (ρ : Loc) (l vs : List V) : Prop := CompI G d fi [] elt i ρ l vs
noncomputable def shr (ρ : Loc) : Loc := ρ.map fun o => o.bind fun o => O.casesOn o (fun v => some (.val v)) fun _ => none
theorem shr_get {ρ : Loc} {j : Nat} {o : O} (e : (shr ρ)[j]? = some (some o)) : ∃ v, o = .val v ∧ ρ[j]? = some (some (.val v)) := by
  unfold shr at e
  rw [List.getElem?_map] at e
  obtain ⟨o', e1, e2⟩ := Option.map_eq_some_iff.mp e
  cases o' with
  | none => cases e2
  | some o' => cases o' with
    | own r => cases e2
    | val v => cases e2; exact ⟨v, rfl, e1⟩

section
variable {G : Gl} {d : Nat} {fi : FI}
theorem TestsG.go {cs : List Expr} {ρ : Loc} {t : Bool} (h : TestsG G d fi cs ρ t) {X : FC} {E : Value → Shared → Prop} {W : WS} {φ : Nat → List Addr} {s : Shared} {Q : Bool → Shared → Prop} (e : X.fi = fi) (S : FS G d X) (F : At X W φ s ρ)
    (k : ∀ W' φ' s', Pst X W s W' φ' s' ρ → Q t s') : TestsW X.C.M X.A E X.env cs Q s := by
  cases cs with
  | nil => cases h; exact k _ _ _ (.refl F)
  | cons c cs => cases cs with
    | nil => exact h X E W φ s e S F Q k
    | cons => cases h
theorem comp_loop {elt iter : Expr} {cs : List Expr} {x : Str} {px : Pos} {i : Nat} {sc : Scope} {pos : Pos} {ρ₀ : Loc} (hx : fi.isOwn x i = true) (hl : fi.names.lookup x = some .local) : ∀ {l vs : List V} {r : List V} {ρ : Loc} {X : FC} {W : WS} {φ : Nat → List Addr} {s : Shared} {it acc : Addr} {R : Result → Shared → Prop},
    CompI G d fi cs elt i ρ₀ l vs → X.fi = fi → FS G d X → (∀ o, ρ.set i o = ρ₀.set i o) → At X W φ s ρ → Fre X W φ it → ItR W s.heap it l → Fre X W φ acc → acc ≠ it → OwnAt W s.heap acc r → l.length + r.length ≤ room →
    (∀ W' φ' s' ρ', At X W' φ' s' ρ' → Ag W s.heap W' s'.heap → Fre X W' φ' acc → OwnAt W' s'.heap acc (vs.reverse ++ r) → R (.ok .next) s') → codeAny X.C.M X.A (.compLoop (.ListComp elt [⟨.Name x px, iter, cs, 0⟩] sc pos) 0 (.ref it) (.ref acc) X.env) R s := by
  intro l
  induction l with
  | nil =>
    intro vs r ρ X W φ s it acc R h e S hρ F f I fa hne O hr k
    cases h
    refine code_comp (I.next S.hd F f fun s' A B C => k _ _ _ _ A B fa ?_)
    obtain ⟨vs, n, e, _⟩ := id O
    exact O.ag B ((C acc _ hne e).trans e.symm)
  | cons v l ih =>
    intro vs r ρ X W φ s it acc R h e S hρ F f I fa hne O hr k
    refine code_comp (I.next S.hd F f fun s' A B C => fun v' rv I' => ?_)
    obtain ⟨o, ho⟩ := I'.at
    obtain ⟨zs, n, he, _⟩ := id O
    have he1 := C acc _ hne he
    have O1 := O.ag B (he1.trans he.symm)
    have F1 := A.pinned f ho
    have fa1 : Fre (X.pinned it o) W φ acc := ⟨by rw [FC.pinned_ne hne]; exact fa.pin, fa.w, fa.mu, fa.nc⟩
    have F2 := F1.pinned fa1 he1
    have S1 : FS G d (X.pinned it o) := S.pinned f.pin
    have S2 : FS G d ((X.pinned it o).pinned acc (lstO zs n)) := S1.pinned fa1.pin
    refine store_ok (X := (X.pinned it o).pinned acc (lstO zs n)) S2 (.inl (show X.fi.names.lookup x = _ by rw [e]; exact hl)) F2 (.val rv) (show X.fi.isOwn x i = true by rw [e]; exact hx) fun φ2 s2 A2 B2 => ?_
    rw [hρ] at A2
    rw [List.length_cons] at hr
    have := room_le
    rcases h with ⟨w, ws, rfl, ht, hw, hl'⟩ | ⟨ht, hl'⟩
    · refine ht.go (X := (X.pinned it o).pinned acc (lstO zs n)) e S2 A2 fun Wt φt st pt => ?_
      refine hw ((X.pinned it o).pinned acc (lstO zs n)) _ Wt φt st e S2 pt.f _ fun w' W3 φ3 s3 p3 r3 => ?_
      obtain ⟨A4, fa4, h4⟩ := p3.f.unpin fa1.pin fa.nc
      obtain ⟨A5, f5, h5⟩ := A4.unpin f.pin f.nc
      have fa5 : Fre X W3 φ3 acc := ⟨fa.pin, fa4.w, fa4.mu, fa.nc⟩
      have ag := (B2.trans pt.ag).trans p3.ag
      have O3 := O1.ag ag (h4.trans he1.symm)
      obtain ⟨vs, m, g1, g2, g3⟩ := O3
      have hs := g2.size
      rw [List.length_reverse] at hs
      refine call_meets PySem.F.slot_list_append ⟨_, g1, rfl⟩ PySem.F.entry_list_append (PySem.F.args_list_append_2 _ _) (list_append acc vs m _ (by rw [hs]; exact g3)) ⟨g1, ?_⟩
      have hsb : Heap.SameBut acc s3.heap (s3.heap.update acc (Obj.mapSeq (·.push w'))) := Heap.SameBut.update ..
      obtain ⟨A6, B6, _⟩ := A5.loose fa5 (t := s3.toks) fun b o q e => (hsb.2 b q).trans e
      refine ih hl' e S (ρ := ρ₀.set i (some (.val v))) (fun o => by rw [List.set_set]) A6 f5 (I'.ag (ag.trans B6) ((hsb.2 it (Ne.symm hne)).trans (h5.trans ho.symm))) fa5 hne (r := w :: r) ⟨_, _, Heap.get?_update_self _ g1 rfl, ?_, ?_⟩ (by rw [List.length_cons]; omega) fun W' φ' s' ρ' a b c d => k W' φ' s' ρ' a ((B.trans (ag.trans B6)).trans b) c ?_
      · rw [Array.toList_push, List.reverse_cons]; exact (g2.snoc r3).ag B6
      · rw [List.length_cons]; omega
      · rw [List.reverse_cons, List.append_assoc]; exact d
    · refine ht.go (X := (X.pinned it o).pinned acc (lstO zs n)) e S2 A2 fun W3 φ3 s3 p3 => ?_
      obtain ⟨A4, fa4, h4⟩ := p3.f.unpin fa1.pin fa.nc
      obtain ⟨A5, f5, h5⟩ := A4.unpin f.pin f.nc
      have fa5 : Fre X W3 φ3 acc := ⟨fa.pin, fa4.w, fa4.mu, fa.nc⟩
      have ag := B2.trans p3.ag
      exact ih hl' e S (ρ := ρ₀.set i (some (.val v))) (fun o => by rw [List.set_set]) A5 f5 (I'.ag ag (h5.trans ho.symm)) fa5 hne (O1.ag ag (h4.trans he1.symm)) (by omega) fun W' φ' s' ρ' a b c d => k W' φ' s' ρ' a ((B.trans ag).trans b) c d

theorem comp_core {elt : Expr} {cs : List Expr} {x : Str} {px : Pos} {i : Nat} {sc : Scope} {pos pos' : Pos} {it : It G d fi} {ρ ρ₁ : Loc} {l vs : List V} (hc : CompC fi sc x i) (h1 : ItG G d fi it.x ρ l ρ₁) (h2 : CompI G d (fi.inner sc x i) cs elt i ((shr ρ₁).set i none) l vs) (hr : l.length ≤ room)
    {X : FC} {E : Value → Shared → Prop} {W : WS} {φ : Nat → List Addr} {s : Shared} {use : Option (Value → Sem Unit)} {Q : Value → Shared → Prop} (e : X.fi = fi) (S : FS G d X) (F : At X W φ s ρ)
    (k : ∀ acc C W' φ' s', Pst X W s W' φ' s' ρ₁ → Fre X W' φ' C → (∃ m, s'.heap.Ns C m) → acc ≠ C → Fre X W' φ' acc → OwnAt W' s'.heap acc vs.reverse → compPost X.C.M X.A E use Q (.ref acc) C (.ok .next) s') :
    wpAny X.C.M X.A (comprehension (.ListComp elt [⟨.Name x px, it.x, cs, 0⟩] sc pos) sc X.env pos' (newList []) false (eval it.x X.env) use) Q E s := by
  subst e
  obtain ⟨cl, hcl, hcl1, hcl2⟩ := closureFor_ok (env := X.env) (scope := sc) fun y hy q => S.cel y.1 (hc.free (by
    have := hc.names y hy; unfold compName at this; rw [q] at this; exact beq_iff_eq.mp (Bool.and_eq_true_iff.mp this).1))
  refine wpAny_comprehension_free (g := ⟨.Name x px, it.x, cs, 0⟩) (gs := []) rfl (noSet it.pl X.env) hcl hc.kind hc.local ?_
  refine h1 X E W φ s rfl S F _ fun a W1 φ1 s1 p1 f1 I1 => wpAny_newObj_type ?_
  refine wpAny_newFunctionEnv hc.cell (by intro y hy; cases hy) (fun h3 hns hsb => ?_) hc.kind
  generalize hh2 : s1.heap.push { cls := .type "list", data := .seq ([] : List Value).toArray } = h2' at hns hsb ⊢
  have hz2 : h2'.objs.size = s1.heap.objs.size + 1 := by rw [← hh2]; exact Heap.size_push ..
  have hk2 : ∀ b o, s1.heap.get? b = some o → h2'.get? b = some o := fun b o q => by rw [← hh2]; exact Heap.get?_push_of_some _ q
  have hk3 : ∀ b o, h2'.get? b = some o → h3.get? b = some o := fun b o q => (hsb.2 b (fun z => absurd (Heap.lt_size q) (by rw [z]; exact Nat.lt_irrefl _))).trans (Heap.get?_push_of_some _ q)
  have ha3 : h3.get? s1.heap.objs.size = some (lstO ([] : List Value).toArray 0) := hk3 _ _ (by rw [← hh2]; exact Heap.get?_push_size _ rfl)
  have g3 : Gs W1 s1 W1 { s1 with heap := h3, toks := s1.toks + ([] : List (Str × Value)).length } := Gs.of p1.f.f.wf fun b o q => hk3 b o (hk2 b o q)
  have F3 := p1.f.gs g3
  have n1 : s1.heap.get? s1.heap.objs.size = none := fresh_size _
  have n2 : s1.heap.get? h2'.objs.size = none := none_of_le (by rw [hz2]; exact Nat.le_succ _)
  have fa : Fre X W1 φ1 s1.heap.objs.size := .of p1.f n1
  have fC : Fre X W1 φ1 h2'.objs.size := .of p1.f n2
  obtain ⟨io, hio⟩ := I1.at
  have ita : s1.heap.objs.size ≠ a := fun q => by rw [q, hio] at n1; cases n1
  have itC : a ≠ h2'.objs.size := fun q => by rw [← q, hio] at n2; cases n2
  have aC : s1.heap.objs.size ≠ h2'.objs.size := by rw [hz2]; exact Nat.ne_of_lt (Nat.lt_succ_self _)
  -- the comprehension's frame
  generalize hce : ({ newEnv sc h2'.objs.size X.env.globals cl X.env.qual none .none (some X.env) builtinsNs with scope := relabel sc X.env } : Env) = cenv
  have cL : cenv.locals = h2'.objs.size := by rw [← hce]; rfl
  have cC : cenv.cells = cl := by rw [← hce]; rfl
  have cN : cenv.scope.names = relab X.fi.names sc.names := by rw [← hce]; exact relabel_names sc S.fn S.nm
  let Y : FC := ⟨X.C, X.A, cenv, X.fi.inner sc x i, fun b => if b = s1.heap.objs.size ∨ b = h2'.objs.size ∨ b = a then none else h3.get? b, W1, false⟩
  have pinY : ∀ b o, s1.heap.get? b = some o → b ≠ a → Y.pin b = some o := fun b o q z => by
    have e1 : ¬ (b = s1.heap.objs.size ∨ b = h2'.objs.size ∨ b = a) := by
      rintro (w | w | w)
      · rw [w, n1] at q; cases q
      · rw [w, n2] at q; cases q
      · exact z w
    exact (if_neg e1).trans (hk3 b o (hk2 b o q))
  have cellv : ∀ y c, cl.lookup y = some c → ∃ o v, h3.get? c = some o ∧ o.data = .cell v := fun y c q => F3.f.cells y c (hcl1 y c q)
  have SY : FS G d Y := by
    refine ⟨S.g, fun b o q => pinY b o (p1.f.keep S b o q) fun z => ?_, S.hd, S.dp, S.un, ?_, ?_, ?_, cN, fun y q => ?_, ?_, ?_⟩
    · have := S.base b o q; rw [z, f1.pin] at this; cases this
    · show cenv.scope.kind = _; rw [← hce]; exact hc.kind
    · show cenv.globals = _; rw [← hce]; exact S.gl
    · show cenv.builtins = _; rw [← hce]; exact S.bi
    · show ∃ c, cenv.cells.lookup y = some c
      rw [cC]; exact Option.isSome_iff_exists.mp (hcl2 (y, .free) (mem_of_lookup (hc.cells q)) rfl)
    · intro y z c hy hz
      have hy : cenv.cells.lookup y = some c := hy
      have hz : cenv.cells.lookup z = some c := hz
      rw [cC] at hy hz
      exact S.inj y z c (hcl1 y c hy) (hcl1 z c hz)
    · intro y z j hy hz
      have hy : ((x, i) :: X.fi.tbl).lookup y = some j := hy
      have hz : ((x, i) :: X.fi.tbl).lookup z = some j := hz
      rw [List.lookup_cons] at hy hz
      split at hy <;> split at hz
      · rename_i q1 _ q2; rw [beq_iff_eq.mp q1, beq_iff_eq.mp q2]
      · cases hy; exact absurd rfl (hc.new z _ hz)
      · cases hz; exact absurd rfl (hc.new y _ hy)
      · exact S.ti y z j hy hz
  have FY : At Y W1 (fun _ => []) { s1 with heap := h3, toks := s1.toks + ([] : List (Str × Value)).length } ((shr ρ₁).set i none) := by
    refine ⟨F3.gens, F3.os, ⟨fun b o q => ?_, ?_, F3.f.wf, fun _ _ _ q => q, fun _ _ _ q => (by cases q), ?_, fun y c q => ?_⟩, fun y j hy o ho hkd => ?_, fun _ _ q => (by cases q)⟩
    · have q : (if b = s1.heap.objs.size ∨ b = h2'.objs.size ∨ b = a then none else h3.get? b) = some o := q
      split at q
      · cases q
      · exact q
    · rintro b (q | ⟨q, _⟩ | ⟨_, q⟩)
      · have q : b = h2'.objs.size := q.trans cL
        exact ⟨if_pos (.inr (.inl q)), fun w => fC.w (q ▸ w)⟩
      · cases q
      · cases q
    · obtain ⟨o, es, ep, e1, e2, e3, _⟩ := hns
      exact ⟨o, es, ep, (show h3.get? cenv.locals = _ by rw [cL]; exact e1), e2, e3⟩
    · have q : cenv.cells.lookup y = some c := q
      rw [cC] at q; exact cellv y c q
    · have hy : ((x, i) :: X.fi.tbl).lookup y = some j := hy
      have hkd : (X.fi.inner sc x i).names.lookup y ≠ none := by
        have hkd : cenv.kindOf y ≠ none := hkd
        unfold Env.kindOf at hkd; rw [cN] at hkd; exact hkd
      rw [List.lookup_cons] at hy
      split at hy
      · cases hy
        rw [List.getElem?_set] at ho
        split at ho
        · split at ho <;> cases ho
        · rename_i q; exact absurd rfl q
      · rename_i q
        have hj : j ≠ i := hc.new y j hy
        rw [List.getElem?_set_ne (Ne.symm hj)] at ho
        obtain ⟨v, rfl, ho2⟩ := shr_get ho
        have hfree := hc.isFree (fun e => by rw [e, beq_self_eq_true] at q; cases q) hy hkd
        have hout := hc.free hfree
        have hk2 : X.env.kindOf y ≠ none := by rw [S.kind]; rcases hout with z | z <;> rw [z] <;> simp
        obtain ⟨v', a1, a2⟩ := F3.lr y j hy _ ho2 hk2
        refine ⟨v', ?_, rfl, a2.2⟩
        rcases a1 with ⟨b1, _⟩ | ⟨b1, c, b2, b3⟩
        · rw [S.kind] at b1; rcases hout with z | z <;> rw [z] at b1 <;> cases b1
        · have hcy : cl.lookup y = some c := by
            obtain ⟨c', hc'⟩ := Option.isSome_iff_exists.mp (hcl2 (y, .free) (mem_of_lookup hfree) rfl)
            have := hcl1 y c' hc'
            rw [b2] at this; cases this; exact hc'
          refine .inr ⟨?_, c, (show cenv.cells.lookup y = _ by rw [cC]; exact hcy), b3⟩
          show cenv.kindOf y = _ ∨ cenv.kindOf y = _
          unfold Env.kindOf; rw [cN, relab_lookup, hfree]
          by_cases z : (NameKind.free == NameKind.free && X.fi.names.lookup y == some .cell) = true
          · left; exact congrArg some (if_pos z)
          · right; exact congrArg some (if_neg z)
  have fY : ∀ b, Fre X W1 φ1 b → (b = s1.heap.objs.size ∨ b = h2'.objs.size ∨ b = a) → b ≠ h2'.objs.size → Fre Y W1 (fun _ => []) b := fun b f q hb => by
    refine ⟨if_pos q, f.w, ?_, fun y z => ?_⟩
    · rintro (z | ⟨z, _⟩ | ⟨_, z⟩)
      · exact hb (z.trans cL)
      · cases z
      · cases z
    · have z : cenv.cells.lookup y = some b := z
      rw [cC] at z
      exact f.nc y (hcl1 y b z)
  have I3 : ItR W1 h3 a l := I1.ag (g3.g.ag p1.f.f.wf) ((hk3 _ _ (hk2 _ _ hio)).trans hio.symm)
  have O3 : OwnAt W1 h3 s1.heap.objs.size [] := ⟨_, _, ha3, rfl, Nat.zero_le _⟩
  have hxl : (X.fi.inner sc x i).names.lookup x = some .local := by
    show (relab _ _).lookup x = _
    rw [relab_lookup, hc.own]; rfl
  have hxo : (X.fi.inner sc x i).isOwn x i = true := by
    unfold FI.isOwn
    rw [hxl, show (X.fi.inner sc x i).tbl.lookup x = some i by show List.lookup x ((x, i) :: _) = _; rw [List.lookup_cons, beq_self_eq_true], beq_self_eq_true]; rfl
  have loop : codeAny X.C.M X.A (.compLoop (.ListComp elt [⟨.Name x px, it.x, cs, 0⟩] sc pos) 0 (.ref a) (.ref s1.heap.objs.size) cenv) (compPost X.C.M X.A E use Q (.ref s1.heap.objs.size) h2'.objs.size) { s1 with heap := h3, toks := s1.toks + ([] : List (Str × Value)).length } := by
    refine comp_loop hxo hxl h2 (X := Y) rfl SY (fun _ => rfl) FY (fY a f1 (.inr (.inr rfl)) itC) I3 (fY _ fa (.inl rfl) aC) ita O3 (by simpa using hr) fun W' φ' s' ρ' A' B' fa' O' => ?_
    have A2 := A'.f
    obtain ⟨A4, B4, V4⟩ := p1.f.move (D := (· = a)) (W' := W') (h' := s'.heap) (t := s'.toks) (fun b q => q ▸ f1) (fun b o q z => A2.pin b o (pinY b o z q)) (fun b q => B'.w b q) A2.wf fun b o q z w => A2.w0 b o (pinY b o z q) w
    have A5 : At X W' φ1 s' ρ₁ := ⟨A'.gens, A'.os, A4.f, A4.lr, A4.ow⟩
    have nm : ∀ b, Fre X W1 φ1 b → ¬ W' b → Fre X W' φ1 b := fun b f w => ⟨f.pin, w, f.mu, f.nc⟩
    refine k _ _ W' φ1 s' ⟨A5, p1.ag.trans B4, fun y v q => V4 y v (p1.vl y v q)⟩ (nm _ fC (A2.mu _ (.inl cL.symm)).2) ?_ aC (nm _ fa fa'.w) (by rw [List.append_nil] at O'; exact O')
    obtain ⟨o, es, ep, e1, e2, e3⟩ := A2.ns
    have e1 : s'.heap.get? cenv.locals = some o := e1
    rw [cL] at e1
    exact ⟨fun y => nsFind es y, o, es, ep, e1, e2, e3, fun _ => rfl⟩
  exact codeAny_compStart_list loop (I3.self (s := { s1 with heap := h3, toks := s1.toks + ([] : List (Str × Value)).length }) loop)
theorem comp_left {X : FC} {W W' : WS} {φ' : Nat → List Addr} {s s' : Shared} {ρ₁ : Loc} {C acc : Addr} {r : List V} {h' : Heap} (p : Pst X W s W' φ' s' ρ₁) (fC : Fre X W' φ' C) (hne : acc ≠ C) (fa : Fre X W' φ' acc) (O : OwnAt W' s'.heap acc r) (hs : Heap.SameBut C s'.heap h') :
    Pst X W s W' φ' { s' with heap := h' } ρ₁ ∧ RO X W' φ' h' (.own r) (.ref acc) := by
  obtain ⟨A, B, V⟩ := p.f.loose fC (t := s'.toks) fun b o q e => (hs.2 b q).trans e
  refine ⟨⟨A, p.ag.trans B, fun x v q => V x v (p.vl x v q)⟩, [acc], ⟨acc, rfl, rfl, O.ag B (hs.2 acc hne)⟩, fun b q => ?_⟩
  cases List.mem_singleton.mp q
  exact ⟨fa.w, fa.mu, fa.pin⟩
noncomputable def CompT (G : Gl) (d : Nat) (fi : FI) (cs : List Expr) (elt : Expr) (i : Nat) (l : List V) (ρ : Loc) (vs : List V) : Prop := CompI G d fi cs elt i ((shr ρ).set i none) l vs ∧ l.length ≤ room
noncomputable def evComp (it : It G d fi) (cs : List Expr) (elt : Expr) (fi' : FI) (i : Nat) (σ : St) : Option (O × St) := bd (it.ev σ) fun l σ => told Tk.vs? (fun ρ vs => CompT G d fi' cs elt i l ρ vs) (fun vs => O.own vs.reverse) (fun _ ρ => ρ) σ
theorem evComp_ok {it : It G d fi} {cs : List Expr} {elt : Expr} {fi' : FI} {i : Nat} : Ok (evComp it cs elt fi' i) fun ρ o ρ' => ∃ l vs, ItG G d fi it.x ρ l ρ' ∧ CompT G d fi' cs elt i l ρ' vs ∧ o = .own vs.reverse :=
  it.eo.bd (R := fun l ρ o ρ' => ∃ vs, CompT G d fi' cs elt i l ρ vs ∧ o = .own vs.reverse ∧ ρ = ρ') (fun l => .told fun vs ρ q => ⟨vs, q, rfl, rfl⟩) fun _ l _ _ _ h q => by
    obtain ⟨vs, q1, q2, rfl⟩ := q; exact ⟨l, vs, h, q1, q2⟩
noncomputable def eCompI (x : Str) (i : Nat) (px : Pos) (it : It G d fi) (sc : Scope) (cs : List Expr) (elt : T G d (fi.inner sc x i)) (pos : Pos) (h : compOk fi sc x i = true) : T G d fi :=
  .mk' (.ListComp elt.x [⟨.Name x px, it.x, cs, 0⟩] sc pos) (evComp it cs elt.x (fi.inner sc x i) i) rfl (evComp_ok.mono fun ρ o ρ' q X E W φ s e S F Q k => by
    obtain ⟨l, vs, h1, h2, rfl⟩ := q
    rw [eval_ListComp]
    refine comp_core (use := none) (it := it) (.of h) h1 h2.1 h2.2 e S F fun acc C W' φ' s' p fC hn hne fa O => ?_
    obtain ⟨m, hn⟩ := hn
    refine ⟨m, hn, fun h' hs => ?_⟩
    obtain ⟨p2, r⟩ := comp_left p fC hne fa O hs
    exact k _ _ _ _ p2 r) fun _ => rfl
noncomputable def eComp (x : Str) (i : Nat) (px : Pos) (it : It G d fi) (sc : Scope) (elt : T G d (fi.inner sc x i)) (pos : Pos) (h : compOk fi sc x i = true) : T G d fi := eCompI x i px it sc [] elt pos h
noncomputable def sAsgI (y : Str) (j : Nat) (p' p : Pos) (x : Str) (i : Nat) (px : Pos) (it : It G d fi) (sc : Scope) (cs : List Expr) (elt : T G d (fi.inner sc x i)) (pos : Pos)
    (h : (compOk fi sc x i && fi.isOwn y j && (fi.names.lookup y == some .local && p'.line == pos.line && !(sc.names.any fun (n, k) => n == y && (k == .local || k == .cell)))) = true) : SS G d fi :=
  ⟨.Assign [.Name y p'] (.ListComp elt.x [⟨.Name x px, it.x, cs, 0⟩] sc pos) p, fun σ => bd (evComp it cs elt.x (fi.inner sc x i) i σ) fun o σ => setL j o σ,
  evComp_ok.bd (R := fun o ρ fl ρ' => fl = .next ∧ ρ' = ρ.set j (some o)) (fun _ => .setL fun _ => ⟨rfl, rfl⟩) fun ρ o ρ₁ fl ρ' q q' X E W φ s e c S F Q k => by
    obtain ⟨l, vs, h1, h2, rfl⟩ := q
    obtain ⟨rfl, rfl⟩ := q'
    rw [Bool.and_eq_true, Bool.and_eq_true] at h
    have hsw : swapsWith (.ListComp elt.x [⟨.Name x px, it.x, cs, 0⟩] sc pos) (some (.Name y p')) p.line X.env = pure true := by
      show (pure (X.env.blockKind == .function && X.env.kindOf y == some .local && p'.line == pos.line && !(sc.names.any fun (n, k) => n == y && (k == .local || k == .cell))) : Sem Bool) = _
      rw [S.kind, e, show X.env.blockKind = .function by unfold Env.blockKind; rw [S.fn]; rfl, beq_self_eq_true, Bool.true_and, h.2]
    rw [exec_Assign_Name_used _ _ _ _ hsw]
    refine wpAny_bind (wpAny_standAt (wpAny_bind ?_))
    show wpAny _ X.A (do let _ ← comprehension (.ListComp elt.x [⟨.Name x px, it.x, cs, 0⟩] sc pos) sc X.env _ (newList []) false (eval it.x X.env) (some (assign (.Name y p') X.env))) _ _ s
    refine wpAny_bind (wpAny_mono (comp_core (use := some (assign (.Name y p') X.env)) (Q := fun _ s' => Q .next s') (it := it) (.of h.1.1) h1 h2.1 h2.2 e S F fun acc C W' φ' s' p2 fC hn hne fa O => ?_) (fun _ s' hq => wpAny_pure (wpAny_pure hq)) fun _ _ e => e)
    obtain ⟨m, hn⟩ := hn
    obtain ⟨o, es, ep, e1, e2, e3, _⟩ := hn
    show wpAny _ X.A (assign (.Name y p') X.env (.ref acc)) _ _ _
    have ro : RO (X.pinned C o) W' φ' s'.heap (.own vs.reverse) (.ref acc) := ⟨[acc], ⟨acc, rfl, rfl, O⟩, fun b q => by cases List.mem_singleton.mp q; exact ⟨fa.w, fa.mu, by rw [FC.pinned_ne hne]; exact fa.pin⟩⟩
    refine wpAny_assign_Name (store_ok (X := X.pinned C o) (S.pinned fC.pin) (.inr c) (p2.f.pinned fC e1) ro (show X.fi.isOwn y j = true by rw [e]; exact h.1.2) fun φ2 s2 A B => ?_)
    obtain ⟨A2, fC2, e4⟩ := A.unpin fC.pin fC.nc
    refine ⟨fun y => nsFind es y, ⟨o, es, ep, e4, e2, e3, fun _ => rfl⟩, fun h' hs => ?_⟩
    obtain ⟨A3, B3, _⟩ := A2.loose fC2 (t := s2.toks) fun b o q e => (hs.2 b q).trans e
    exact k _ _ _ _ A3 ((p2.ag.trans B).trans B3) rfl⟩
noncomputable def sAsgC (y : Str) (j : Nat) (p' p : Pos) (x : Str) (i : Nat) (px : Pos) (it : It G d fi) (sc : Scope) (elt : T G d (fi.inner sc x i)) (pos : Pos)
    (h : (compOk fi sc x i && fi.isOwn y j && (fi.names.lookup y == some .local && p'.line == pos.line && !(sc.names.any fun (n, k) => n == y && (k == .local || k == .cell)))) = true) : SS G d fi := sAsgI y j p' p x i px it sc [] elt pos h
end
end Mine
end

section
open PySem
set_option autoImplicit false
set_option linter.unusedVariables false
namespace Mine
open PySem.W (Frag kitOne keepIn Looks)

section
variable {G : Gl} {d : Nat} {fi : FI}
noncomputable def eTell (a : T G d fi) : T G d fi :=
  have eo : Ok (fun σ => bd (a.ev σ) fun o σ => told Tk.r? (fun _ o' => o = o') id (fun _ ρ => ρ) σ) (EvG G d fi a.x) := a.eo.bd (R := fun o ρ o' ρ' => o = o' ∧ ρ = ρ') (fun o => Ok.told (f := Tk.r?) (p := fun _ o' => o = o') (r := id) (ρ := fun _ ρ => ρ) fun o' ρ q => ⟨q, rfl⟩) fun _ _ _ _ _ h q => by
    obtain ⟨rfl, rfl⟩ := q; exact h
  ⟨a.x, _, a.pk, a.tr, a.pl, eo, a.po, a.to⟩

noncomputable def namesAt (p : Program) (k : Nat) : List (Str × NameKind) := match p.main.body[k]? with
  | some (.FunctionDef _ _ _ _ _ _ sc _ _ _) => sc.names
  | _ => []
noncomputable def bodyAt (p : Program) (k : Nat) : List Stmt := match p.main.body[k]? with
  | some (.FunctionDef _ _ b _ _ _ _ _ _ _) => b
  | _ => []
noncomputable def obs {α : Type} (r : Option (α × St)) : List Prop := Option.casesOn r [] fun p => p.2.ob
noncomputable def out {α : Type} (r : Option (α × St)) : Option (α × Loc × List Tk) := r.bind fun p => some (p.1, p.2.ρ, p.2.tp)
theorem Ok.run {α : Type} {f : St → Option (α × St)} {S : Loc → α → Loc → Prop} (h : Ok f S) {ρ ρ' : Loc} {tp : List Tk} {a : α} {P : Prop} (e : out (f ⟨ρ, tp, []⟩) = some (a, ρ', [])) (o : All (obs (f ⟨ρ, tp, []⟩)) = P) (p : P) : S ρ a ρ' := by
  subst o
  obtain ⟨⟨a', ρ2, tp2, ob2⟩, e1, e2⟩ := Option.bind_eq_some_iff.mp e
  cases e2
  have : All ob2 := by rw [e1] at p; exact p
  exact (h _ _ _ e1 this).2
end
end Mine
end

section
open PySem PySem.W
set_option autoImplicit false
set_option linter.unusedVariables false
namespace Mine
open PySem.W (Frag kitOne keepIn Looks)

theorem items_ints {R : WRecords} : ∀ {xs : List WData}, WShape.hasItems R xs .int = true → ∃ ns : List Int, xs = ns.map .int
  | [], _ => ⟨[], rfl⟩
  | x :: xs, h => by
    simp only [WShape.hasItems, Bool.and_eq_true] at h
    obtain ⟨i, rfl⟩ := hasW_int h.1
    obtain ⟨ns, rfl⟩ := items_ints h.2
    exact ⟨i :: ns, rfl⟩
theorem law_args {l : OpenLaw} (hm : l.most = some 63) (hb : l.bound = none) {args : List WData} (hpre : l.row.toRowW.claim.pre args = true) : ∃ ns : List Int, args = [.list (ns.map .int)] ∧ ns.length ≤ 63 := by
  obtain ⟨h1, h2⟩ := pre_splitW hpre
  obtain ⟨d, r, rfl, h3, h4⟩ := hasAllW_cons (e := .list .int) (es := []) h1
  obtain rfl := hasAllW_nil h4
  obtain ⟨xs, rfl, h5⟩ := hasW_list h3
  obtain ⟨ns, rfl⟩ := items_ints h5
  refine ⟨ns, rfl, ?_⟩
  have h2' : l.pre.holds [] { args := [.list (ns.map .int)] } = true := h2
  unfold OpenLaw.pre at h2'
  rw [hm, hb] at h2'
  by_cases q : ns.length ≤ 63
  · exact q
  · exfalso
    have hl : less? (WData.int 63) (WData.int (ns.length : Int)) = some true := by
      simp [less?, Num.less?]; omega
    simp [WTm.holds, WTm.value, hl] at h2'
theorem reads_ints {W : WS} {h : Heap} {P : Params} : ∀ {ns : List Int} {vs : List Value}, WellAll P h vs (ns.map .int) → VRs W h (ns.map .int) vs
  | [], _, .nil => rfl
  | n :: ns, _, .cons h r => by cases h with | int i t => exact .cons ⟨t, rfl⟩ (reads_ints r)

noncomputable def codeChk (K : Frag) (cd : Value) (q : Str) : Bool := match cd with
  | .ref c => (match K.lookup c with
    | some o => (match o.data with
      | .fields vs => (match (vs[1]? : Option Value) with
        | some (.str z _) => z == q
        | _ => false)
      | _ => false)
    | none => false)
  | _ => false
theorem codeChk_of {K : Frag} {h : Heap} (X : K.In h) {cd : Value} {q : Str} (e : codeChk K cd q = true) : h.CodeRec cd q := by
  unfold codeChk at e
  split at e
  · split at e
    · rename_i o ho
      split at e
      · rename_i vs hd
        split at e
        · rename_i z t hz
          rw [beq_iff_eq.mp e] at hz
          exact ⟨_, o, vs, t, rfl, X _ _ ho, hd, hz⟩
        · cases e
      · cases e
    · cases e
  · cases e
noncomputable def fdOf (K : Frag) (a : Addr) : Option FuncData := (K.lookup a).bind fun o => match o.data with
  | .func fd => some fd
  | _ => none
noncomputable def fdChk (K : Frag) (f : FD) (fd : FuncData) : Bool :=
  fd.closure.isEmpty && fd.globals == mainGlobals && fd.builtins == builtinsNs && !fd.scope.isCoroutine && !fd.scope.isGenerator && fd.scope.kind == .function && codeChk K fd.code fd.qualname &&
  fd.params.posonlyargs.isEmpty && fd.params.args.map (·.arg) == f.ps && fd.params.vararg.isNone && fd.params.kwonlyargs.isEmpty && fd.params.kwarg.isNone && fd.defaults == .none &&
  decide f.ps.Nodup && (f.ps.all fun p => f.fi.names.lookup p == some .local || f.fi.names.lookup p == some .cell) && (f.fi.names.all fun x => x.2 != .free) &&
  (f.ps.zipIdx.all fun x => f.fi.tbl.lookup x.1 == some x.2) && decide ((f.fi.tbl.map (·.2)).Nodup)
noncomputable def bodyIs (K : Frag) (a : Addr) : Option (FuncBody × List (Str × NameKind)) := (fdOf K a).bind fun fd => some (fd.body, fd.scope.names)
structure FnAt (K : Frag) (a : Addr) (f : FD) : Prop where
  body : bodyIs K a = some (.stmts f.st, f.fi.names)
  chk : (Option.casesOn (fdOf K a) false fun fd => fdChk K f fd : Bool) = true
theorem zip_lookup : ∀ (ps : List Str) (vals : List Value), ps.Nodup → vals.length = ps.length → (ps.filterMap fun n => ((ps.zip vals).lookup n).map (n, ·)) = ps.zip vals := by
  have key : ∀ (ps : List Str) (vals : List Value) (pre : List (Str × Value)), (∀ p ∈ ps, pre.lookup p = none) → ps.Nodup → vals.length = ps.length → (ps.filterMap fun n => ((pre ++ ps.zip vals).lookup n).map (n, ·)) = ps.zip vals := by
    intro ps
    induction ps with
    | nil => intro vals pre _ _ _; rfl
    | cons p ps ih =>
      intro vals pre hpre hn hl
      cases vals with
      | nil => cases hl
      | cons v vals =>
        rw [List.zip_cons_cons, List.filterMap_cons]
        have e : ((pre ++ (p, v) :: ps.zip vals).lookup p).map (p, ·) = some (p, v) := by
          rw [List.lookup_append, hpre p List.mem_cons_self]; simp
        rw [e]
        have := ih vals (pre ++ [(p, v)]) (fun q hq => ?_) (List.nodup_cons.mp hn).2 (by simpa using hl)
        · rw [List.append_assoc] at this
          simp only [List.singleton_append] at this
          rw [this]
        · rw [List.lookup_append, hpre q (List.mem_cons_of_mem _ hq)]
          have hne : (q == p) = false := by
            rw [beq_eq_false_iff_ne]; rintro rfl; exact (List.nodup_cons.mp hn).1 hq
          simp [List.lookup_cons, hne]
  intro ps vals hn hl
  have := key ps vals [] (fun _ _ => rfl) hn hl
  simpa using this
theorem zip_some : ∀ (ps : List Str) (vals : List Value), vals.length = ps.length → ∀ p ∈ ps, ((ps.zip vals).lookup p).isSome = true
  | [], _, _, p, h => by cases h
  | q :: ps, [], hl, _, _ => by cases hl
  | q :: ps, v :: vals, hl, p, h => by
    rw [List.zip_cons_cons, List.lookup_cons]
    split
    · rfl
    · rename_i z
      rcases List.mem_cons.mp h with r | r
      · rw [r, beq_self_eq_true] at z; cases z
      · exact zip_some ps vals (by simpa using hl) p r
theorem bind_plain {fd : FuncData} {as : List Arg} {d : List Expr} {kd : List (Option Expr)} (hp : fd.params = { posonlyargs := [], args := as, vararg := none, kwonlyargs := [], kw_defaults := kd, kwarg := none, defaults := d }) (hd : fd.defaults = .none)
    (hn : (as.map (·.arg)).Nodup) (vals : List Value) (hl : vals.length = (as.map (·.arg)).length) : bindArgs fd ⟨vals, []⟩ = pure ((as.map (·.arg)).zip vals) := by
  have hmiss : ((as.map (·.arg)).filter fun n => (((as.map (·.arg)).zip vals).lookup n).isNone) = [] := by
    rw [List.filter_eq_nil_iff]
    intro p hp q
    have := zip_some (as.map (·.arg)) vals hl p hp
    cases z : ((as.map (·.arg)).zip vals).lookup p with
    | none => rw [z] at this; cases this
    | some v => rw [z] at q; cases q
  have hseq : seqItems? Value.none = pure none := rfl
  have hz := zip_lookup (as.map (·.arg)) vals hn hl
  unfold bindArgs
  rw [hp, hd, hseq]
  have hle : ¬ vals.length > (as.map (·.arg)).length := by omega
  simp only [List.map_nil, List.nil_append, List.forIn_nil, pure_bind, Option.getD_none, List.length_nil, Nat.zero_sub, List.drop_nil, Nat.sub_zero, List.zip_nil_right, List.append_nil, List.take_length]
  simp [hmiss, hz]
  intro q
  rw [List.length_map] at hl
  omega
theorem fn_of {C : Cx} {a : Addr} {f : FD} (X : C.K.In C.h) (h : FnAt C.K a f) : ∃ o fd, FnOk C a f o fd := by
  have h0 := h.body
  unfold bodyIs fdOf at h0
  obtain ⟨fd, e1, e2⟩ := Option.bind_eq_some_iff.mp h0
  obtain ⟨o, ho, e4⟩ := Option.bind_eq_some_iff.mp e1
  have hfd : fdOf C.K a = some fd := e1
  have hc := h.chk
  rw [hfd] at hc
  have h : fdChk C.K f fd = true := hc
  obtain ⟨b1, b2⟩ := Prod.mk.inj (Option.some.inj e2)
  split at e4
  · rename_i fd' hd
    cases e4
    unfold fdChk at h
    simp only [Bool.and_eq_true, Bool.not_eq_true', beq_iff_eq, decide_eq_true_eq, List.isEmpty_iff, Option.isNone_iff_eq_none, List.all_eq_true, Bool.or_eq_true, bne_iff_ne, ne_eq] at h
    obtain ⟨⟨⟨⟨⟨⟨⟨⟨⟨⟨⟨⟨⟨⟨⟨⟨⟨h2, h3⟩, h4⟩, h5⟩, h6⟩, h7⟩, h8⟩, h9⟩, h10⟩, h11⟩, h12⟩, h13⟩, h14⟩, h16⟩, h17⟩, h18⟩, h19⟩, h20⟩ := h
    refine ⟨o, fd, ⟨X _ _ ho, hd, b1, h2, h3, h4, h5, h6, h7, codeChk_of X h8, ?_, h16, b2, h17, h18, ?_, ?_⟩⟩
    · intro vals hl
      rw [← h10] at hl h16 ⊢
      refine bind_plain (as := fd.params.args) (d := fd.params.defaults) (kd := fd.params.kw_defaults) ?_ h14 h16 vals hl
      generalize fd.params = pp at h9 h11 h12 h13
      obtain ⟨a1, a2, a3, a4, a5, a6, a7⟩ := pp
      dsimp only at h9 h11 h12 h13
      subst h9 h11 h12 h13; rfl
    · intro i p hp
      exact h19 (p, i) (by rw [List.mem_zipIdx_iff_getElem?]; simpa using hp)
    · intro y z j hy hz
      have m1 := mem_of_lookup hy
      have m2 := mem_of_lookup hz
      obtain ⟨a, la, ea⟩ := List.getElem_of_mem m1
      obtain ⟨b, lb, eb⟩ := List.getElem_of_mem m2
      have : (f.fi.tbl.map (·.2))[a]'(by simpa using la) = (f.fi.tbl.map (·.2))[b]'(by simpa using lb) := by
        rw [List.getElem_map, List.getElem_map, ea, eb]
      have hab : a = b := (List.getElem_inj h20).mp this
      subst hab
      rw [ea] at eb
      exact (Prod.mk.inj eb).1
  · cases e4

noncomputable def topOf (K : Frag) : Array DictEntry := match K.lookup mainGlobals with
  | some o => (match o.data with
    | .dict es _ => es
    | _ => #[])
  | none => #[]
noncomputable def isTop (K : Frag) : Bool := match K.lookup mainGlobals with
  | some o => (match o.data with
    | .dict _ _ => true
    | _ => false)
  | none => false
theorem top_of {K : Frag} {h : Heap} {mg : Str → Option Value} (X : K.In h) (g : h.Ns mainGlobals mg) (e : isTop K = true) (x : Str) : mg x = nsFind (topOf K) x := by
  obtain ⟨o, es, ep, h1, h2, h3, h4⟩ := g
  unfold isTop at e
  split at e
  · rename_i o' ho
    split at e
    · rename_i es' ep' hd
      have h1' := X _ _ ho
      rw [h1] at h1'
      cases h1'
      rw [hd] at h2
      cases h2
      unfold topOf
      rw [ho]
      dsimp only
      rw [hd]
      exact (h4 x).symm
    · cases e
  · cases e
theorem mem_fd {a : Addr} {f : FD} : ∀ {l : List (Addr × FD)}, l.lookup a = some f → (a, f) ∈ l
  | [], e => nomatch e
  | (b, g) :: l, e => by
    rw [List.lookup_cons] at e
    split at e
    · rename_i q; cases e; rw [beq_iff_eq.mp q]; exact List.mem_cons_self
    · exact List.mem_cons_of_mem _ (mem_fd e)
structure GChk (G : Gl) (K : Frag) : Prop where
  top : isTop K = true
  fn : (G.fn.all fun x => nsFind (topOf K) x.1 == some (.ref x.2) && keepIn K (.ref x.2)) = true
  bn : (G.bn.all fun x => nsFind (topOf K) x == none && x != "__name__") = true
  isi : (([.none, .bool, .int, .str, .tup, .list] : List Kd).all fun k => G.ty.all fun t => kitOne K k.v (.type t.n) == some (isiK k t)) = true
  fd : ∀ a f, (a, f) ∈ G.fd → FnAt K a f
theorem GChk.ok {G : Gl} {C : Cx} (c : GChk G C.K) (X : C.K.In C.h) (g : C.h.Ns mainGlobals C.mg) (b : C.h.Ns builtinsNs C.mb) (bi : ∀ x : Str, x ≠ "__name__" → C.mb x = bootBuiltins x) (nl : C.h.NoLimit) (hmo : G.mo C) : GOk G C where
  X := X
  g := g
  b := b
  bi := bi
  nolimit := nl
  isi := fun k t ht => beq_iff_eq.mp (List.all_eq_true.mp (List.all_eq_true.mp c.isi k (by cases k <;> decide)) t ht)
  bn := fun x hx => by
    have := List.all_eq_true.mp c.bn x hx
    rw [Bool.and_eq_true, beq_iff_eq, bne_iff_ne] at this
    rw [top_of X g c.top]; exact this
  fn := fun x a hx => by
    have := List.all_eq_true.mp c.fn _ (mem_of_lookup hx)
    rw [Bool.and_eq_true, beq_iff_eq] at this
    rw [top_of X g c.top]; exact this
  fd := fun a f hf => fn_of X (c.fd a f (mem_fd hf))
  mo := hmo

end Mine
end

section
open PySem
set_option autoImplicit false
set_option linter.unusedVariables false
namespace Mine
section
variable {G : Gl} {d : Nat} {fi : FI}
noncomputable def res (r : Option (Fl × St)) : Option O := r.bind fun p => Fl.casesOn p.1 none fun o => List.casesOn p.2.tp (some o) fun _ _ => none
theorem res_of {r : Option (Fl × St)} {o : O} (e : res r = some o) : ∃ ρ ob, r = some (.ret o, ⟨ρ, [], ob⟩) := by
  obtain ⟨⟨f, ρ, tp, ob⟩, e1, e⟩ := Option.bind_eq_some_iff.mp e
  cases f with
  | next => cases e
  | ret o' =>
    cases tp with
    | nil => cases e; exact ⟨ρ, ob, e1⟩
    | cons => cases e
theorem call_go {a : Addr} {f : FD} {args : List V} {o : O} {n : Nat} {tp : List Tk} {P : Prop} (B : SL G d f.fi) (hf : G.fd.lookup a = some f) (hB : B.xs = f.st) (hn : args.length = f.ps.length)
    (e : res (B.ex ⟨loc0 args n, tp, []⟩) = some o) (ob : All (obs (B.ex ⟨loc0 args n, tp, []⟩)) = P) (p : P) : CallOK G (d + 1) a args o := by
  obtain ⟨ρ, o', h⟩ := res_of e
  subst ob
  have q : All o' := by rw [h] at p; exact p
  exact call_of hf hn (hB ▸ (B.eo _ _ _ h q).2) (.inl rfl)
section
variable {c : T G d fi} {b : SL G d fi} {ρ ρ' ρ'' : Loc} {fl : Fl} {tp : List Tk} {P : Prop}
theorem whil_go (f : Bool) (e : out (turn c b f ⟨ρ, tp, []⟩) = some (some .next, ρ', [])) (o : All (obs (turn c b f ⟨ρ, tp, []⟩)) = P) (p : P) (h : WhilOK G d fi c.x b.xs ρ' fl ρ'') : WhilOK G d fi c.x b.xs ρ fl ρ'' :=
  (turn_ok c b f).run e o p fl ρ'' h
theorem whil_end (f : Bool) (e : out (turn c b f ⟨ρ, tp, []⟩) = some (none, ρ', [])) (o : All (obs (turn c b f ⟨ρ, tp, []⟩)) = P) (p : P) : WhilOK G d fi c.x b.xs ρ .next ρ' :=
  (turn_ok c b f).run e o p .next ρ' ⟨rfl, rfl⟩
theorem for_go {x : Str} {p' : Pos} {i : Nat} {v : V} {l : List V} (hx : fi.isOwn x i = true) (e : out (b.ex ⟨ρ.set i (some (.val v)), tp, []⟩) = some (.next, ρ', [])) (o : All (obs (b.ex ⟨ρ.set i (some (.val v)), tp, []⟩)) = P) (p : P)
    (h : ForOK G d fi (.Name x p') b.xs l ρ' fl ρ'') : ForOK G d fi (.Name x p') b.xs (v :: l) ρ fl ρ'' :=
  (for_ok hx b v l).run (ρ := ρ) e o p fl ρ'' h
theorem comp_nil {elt : Expr} {i : Nat} : CompL G d fi elt i ρ [] [] := rfl
theorem comp_go {elt : T G d fi} {i : Nat} {v : V} {l vs : List V} {o : O} (e : out (elt.ev ⟨ρ.set i (some (.val v)), tp, []⟩) = some (o, ρ.set i (some (.val v)), [])) (ob : All (obs (elt.ev ⟨ρ.set i (some (.val v)), tp, []⟩)) = P) (p : P)
    (h : CompL G d fi elt.x i ρ l vs) : CompL G d fi elt.x i ρ (v :: l) (o.frz :: vs) := .inl ⟨_, _, rfl, rfl, (elt.eo.run e ob p).v, h⟩
end
end
end Mine
end

section
open PySem
set_option autoImplicit false
set_option linter.unusedVariables false
namespace Mine
open PySem.W (Frag kitOne keepIn Looks)
noncomputable def dpt (v : V) : Nat := @V.rec (fun _ => Nat) (fun _ => Nat) 0 (fun _ => 0) (fun _ => 0) (fun _ => 0) (fun _ n => n + 1) (fun _ n => n + 1) 0 (fun _ _ a b => max a b) v
noncomputable def dpts (l : List V) : Nat := @V.rec_1 (fun _ => Nat) (fun _ => Nat) 0 (fun _ => 0) (fun _ => 0) (fun _ => 0) (fun _ n => n + 1) (fun _ n => n + 1) 0 (fun _ _ a b => max a b) l
theorem dat_of (v : V) : ∃ x : PyData, ∀ (W : WS) (h : Heap) (v' : Value), VR W h v v' → (∃ as, Reads h v' x as) ∧ x.canLay0 = true ∧ x.depth ≤ dpt v :=
  V.rec (motive_1 := fun v => ∃ x : PyData, ∀ (W : WS) (h : Heap) (v' : Value), VR W h v v' → (∃ as, Reads h v' x as) ∧ x.canLay0 = true ∧ x.depth ≤ dpt v)
    (motive_2 := fun l => ∃ xs : List PyData, ∀ (W : WS) (h : Heap) (l' : List Value), VRs W h l l' → (∃ as, ReadsAll h l' xs as) ∧ PyData.canLayAll0 xs = true ∧ PyData.depthAll xs ≤ dpts l)
    ⟨.none, fun W h v' r => by cases r; exact ⟨⟨_, .none⟩, rfl, Nat.zero_le _⟩⟩
    (fun b => ⟨.bool b, fun W h v' r => by cases r; exact ⟨⟨_, .bool _⟩, rfl, Nat.zero_le _⟩⟩)
    (fun i => ⟨.int i, fun W h v' r => by obtain ⟨t, rfl⟩ := r; exact ⟨⟨_, .int _ _⟩, rfl, Nat.zero_le _⟩⟩)
    (fun z => ⟨.str ⟨z.toArray⟩, fun W h v' r => by obtain ⟨t, rfl, ok, _⟩ := r; exact ⟨⟨_, .str _ _⟩, by simpa [PyData.canLay0] using ok, Nat.zero_le _⟩⟩)
    (fun l ih => by
      obtain ⟨xs, ih⟩ := ih
      refine ⟨.tuple xs, fun W h v' r => ?_⟩
      obtain ⟨a, vs, n, rfl, _, h1, _, h3⟩ := VR.tup r
      obtain ⟨⟨as, A⟩, B, C⟩ := ih W h _ h3
      refine ⟨⟨as, .tuple h1 rfl rfl A⟩, by simpa [PyData.canLay0] using B, ?_⟩
      show PyData.depthAll xs + 1 ≤ dpts l + 1
      exact Nat.succ_le_succ C)
    (fun l ih => by
      obtain ⟨xs, ih⟩ := ih
      refine ⟨.list xs, fun W h v' r => ?_⟩
      obtain ⟨a, vs, n, rfl, _, h1, _, h3⟩ := VR.lst r
      obtain ⟨⟨as, A⟩, B, C⟩ := ih W h _ h3
      refine ⟨⟨_, .list h1 rfl rfl A⟩, by simpa [PyData.canLay0] using B, ?_⟩
      show PyData.depthAll xs + 1 ≤ dpts l + 1
      exact Nat.succ_le_succ C)
    ⟨[], fun W h l' r => by cases r; exact ⟨⟨_, .nil⟩, rfl, Nat.zero_le _⟩⟩
    (fun v l iv il => by
      obtain ⟨x, iv⟩ := iv
      obtain ⟨xs, il⟩ := il
      refine ⟨x :: xs, fun W h l' r => ?_⟩
      obtain ⟨v', r', rfl, rv, rl⟩ := VRs.inv r
      obtain ⟨⟨as, A⟩, B, C⟩ := iv W h _ rv
      obtain ⟨⟨bs, A'⟩, B', C'⟩ := il W h _ rl
      refine ⟨⟨_, .cons A A'⟩, ?_, ?_⟩
      · show (x.canLay0 && PyData.canLayAll0 xs) = true
        rw [B, B']; rfl
      · show max x.depth (PyData.depthAll xs) ≤ max (dpt v) (dpts l)
        omega) v
section
variable {G : Gl} {d : Nat} {fi : FI}
noncomputable def kSame (b : Bool) (x : V) (y : O) : Option (Bool × List Prop) := y.val?.bind fun y => some (b, [x = y ∧ dpt x ≤ 1900])
theorem primSame : PrimC G d .Eq (kSame true) ∧ PrimC G d .NotEq (kSame false) := by
  constructor
  all_goals
    intro x y t ps e q X E W φ s ρ S F x' y' rx ry Q k
    obtain ⟨v, e1, e⟩ := Option.bind_eq_some_iff.mp e
    cases e
    obtain ⟨rfl, hd⟩ := q.1
    rw [O.val_of e1] at ry
    obtain ⟨z, hz⟩ := dat_of x
    obtain ⟨⟨as, A⟩, B, C⟩ := hz W s.heap x' rx
    obtain ⟨⟨bs, A'⟩, _, _⟩ := hz W s.heap y' ry
    have hu : X.A.units + min z.depth z.depth < cLine := by have := S.u; unfold deep at this; omega
  · exact SeqAt.compareEq_reads A A' B B hu (by rw [SeqAt.eqv_refl z B]; exact k s.toks)
  · exact SeqAt.compareNe_reads A A' B B hu (by rw [SeqAt.eqv_refl z B]; exact k s.toks)
noncomputable def eEqS : T G d fi → T G d fi → Pos → T G d fi := eCmp .Eq (kSame true) primSame.1
noncomputable def eNeS : T G d fi → T G d fi → Pos → T G d fi := eCmp .NotEq (kSame false) primSame.2
end
end Mine
end

section
open PySem
set_option autoImplicit false
set_option linter.unusedVariables false
namespace Mine
open PySem.W (Frag kitOne keepIn Looks)
open PyProof.Rows (StrsAre)
theorem texts_are {W : WS} {h : Heap} : ∀ {l : List V} {l' : List Value} {ss : List (List Nat)}, VRs W h l l' → textsOf l = some ss → StrsAre l' (ss.map fun z => (⟨z.toArray⟩ : Str))
  | [], _, _, r, e => by cases r; cases e; exact .nil
  | v :: l, _, _, r, e => by
    obtain ⟨v', r', rfl, rv, rl⟩ := VRs.inv r
    obtain ⟨z, e1, e⟩ := Option.bind_eq_some_iff.mp e
    obtain ⟨t, e2, e⟩ := Option.bind_eq_some_iff.mp e
    cases e
    rw [V.str_of e1] at rv
    obtain ⟨tk, rfl, ok, _⟩ := rv
    exact .cons _ tk (texts_are rl e2)
theorem any_str (z : List Nat) : ∀ ss : List (List Nat), (ss.map fun z => (⟨z.toArray⟩ : Str)).any (· == ⟨z.toArray⟩) = ss.any (· == z)
  | [] => rfl
  | t :: ss => by
    rw [List.map_cons, List.any_cons, List.any_cons, any_str z ss]
    congr 1
    by_cases q : t = z
    · subst q; simp
    · have q' : (t == z) = false := by simpa using q
      rw [q', beq_eq_false_iff_ne]
      intro e; exact q (by simpa using e)
section
variable {G : Gl} {d : Nat} {fi : FI}
noncomputable def sExt (x : Str) (i : Nat) (a : T G d fi) (xp ap cp p : Pos) (h : (fi.isVar x i && (ap.endLine == cp.line)) = true) : SS G d fi :=
  ⟨.Expr (.Call (.Attribute (.Name x xp) "extend" ap) [a.x] [] cp) p, fun σ => (ownAt σ.ρ i).bind fun _ => bd (a.ev σ) fun y σ => y.frz.lst?.bind fun l => (ownAt σ.ρ i).bind fun r => some (.next, ⟨σ.ρ.set i (some (.own (l.reverse ++ r))), σ.tp, (l.length + r.length < room) :: σ.ob⟩), by
    intro σ f σ' e q
    obtain ⟨o0, e0, e⟩ := Option.bind_eq_some_iff.mp e
    obtain ⟨⟨y, σ₁⟩, e1, e⟩ := Option.bind_eq_some_iff.mp e
    obtain ⟨l, e3, e⟩ := Option.bind_eq_some_iff.mp e
    obtain ⟨r, e2, e⟩ := Option.bind_eq_some_iff.mp e
    rw [Bool.and_eq_true] at h
    cases e
    obtain ⟨q2, hk⟩ := a.eo σ y σ₁ e1 q.2
    refine ⟨q2, fun X E W φ s ef c S F Q k => wpAny_Expr_any (method_call rfl (fun z q => by cases List.mem_singleton.mp q; exact a.pl) h.2 rfl fun pl => load_ok S F (ef ▸ h.1) (ownAt_some e0) fun x' hx hn hv rr => ?_) (by unfold interactive; rw [S.fn]; rfl) rfl⟩
    obtain ⟨a0, _, rfl, vs0, n0, z0, _⟩ := rr
    refine getMethod_builtin (T := "list") ⟨_, z0, rfl⟩ PySem.F.plainAttrs_list PySem.F.slot_list_extend PySem.F.type_list_extend (fun a q => by cases q; exact ⟨_, z0, rfl⟩) ?_
    refine callW (K := X.C.K) (fun h _ => keeper_builtin _ h _) (PySem.Calls.spliced_cons (hk.v X E W φ s ef S F _ fun y' W' φ' s' p' r' => PySem.Calls.spliced_nil ⟨p'.f.In S, ?_⟩))
    obtain ⟨ad, hp, ea, vs, n, h1, h2, h3⟩ := still p'.f hx hn (p'.vl _ _ hv) (ownAt_some e2)
    cases ea
    have hs := h2.size
    rw [List.length_reverse] at hs
    rw [V.lst_of e3] at r'
    obtain ⟨b, ws, m, rfl, _, g1, g2, g3⟩ := VR.lst r'
    have hs2 := g3.size
    have q1 : l.length + r.length < room := q.1
    have := room_le
    have hz : vs.size + ws.size ≤ sizeLine := by omega
    refine call_meets PySem.F.slot_list_extend ⟨_, h1, rfl⟩ PySem.F.entry_list_extend (PySem.F.args_list_extend_2 _ _) (AutoSeq1.list_extend_list_list_0 a0 vs n b ws m (PyProof.Rows.extend_door hz) (by omega)) ⟨h1, g1, ?_⟩
    obtain ⟨A, B⟩ := p'.f.turn (x := x) (i := i) (t := s'.toks) (r := l.reverse ++ r) (h' := s'.heap.update a0 (Obj.mapSeq (· ++ ws))) (fun z hz => S.ti z x i hz hx) hp (Heap.SameBut.update ..) (p'.vl _ _ hv) (Heap.get?_update_self _ h1 rfl)
      (by rw [Array.toList_append, List.reverse_append, List.reverse_reverse]; exact h2.append g3) (by rw [List.length_append, List.length_reverse]; omega)
    exact k _ _ _ _ A (p'.ag.trans B) rfl⟩
end
end Mine
end

section
open PySem
set_option autoImplicit false
set_option linter.unusedVariables false
namespace Mine
open PySem.W (Frag kitOne keepIn Looks)

def Wh (h : Heap) : WS := fun a => ∃ o, h.get? a = some o
def GVal (C : Cx) (x : Str) (v : V) : Prop := ∃ v', C.mg x = some v' ∧ VR (Wh C.h) C.h v v'
def GDic (C : Cx) (x : Str) (kvs : List (List Nat × Int)) : Prop := ∃ a kws, C.mg x = some (.ref a) ∧ C.h.DictOf (strKind C.prog C.w) a kws ∧ ∀ z i, kvs.lookup z = some i → ∃ t, valueAt kws ⟨z.toArray⟩ = some (.int i t)
section
variable {G : Gl} {d : Nat} {fi : FI}
theorem Wh.ag {X : FC} {W : WS} {φ : Nat → List Addr} {s : Shared} {ρ : Loc} (S : FS G d X) (F : At X W φ s ρ) : Ag (Wh X.C.h) X.C.h (Wh X.C.h) s.heap := ⟨fun _ q => q, fun a ⟨o, q⟩ => (F.keep S a o q).trans q.symm⟩
noncomputable def lStuck (xs : List Stmt) : SL G d fi := ⟨xs, fun _ => none, .none fun _ => rfl⟩
theorem for_ret {x : Str} {p' : Pos} {i : Nat} {v : V} {l : List V} {b : SL G d fi} {ρ ρ' : Loc} {tp : List Tk} {P : Prop} {o' : O} (hx : fi.isOwn x i = true) (e : out (b.ex ⟨ρ.set i (some (.val v)), tp, []⟩) = some (.ret o', ρ', [])) (o : All (obs (b.ex ⟨ρ.set i (some (.val v)), tp, []⟩)) = P) (p : P) :
    ForOK G d fi (.Name x p') b.xs (v :: l) ρ (.ret o') ρ' := (for_ok hx b v l).run (ρ := ρ) e o p (.ret o') ρ' ⟨rfl, rfl⟩
noncomputable def sAsgK (y : Str) (j : Nat) (p' p : Pos) (x : Str) (i : Nat) (px : Pos) (it : It G d fi) (sc : Scope) (elt : T G d (fi.inner sc x i)) (pos : Pos) (h : (compOk fi sc x i && fi.isOwn y j && (fi.names.lookup y != some .local)) = true) : SS G d fi :=
  have hc : compOk fi sc x i = true := by rw [Bool.and_eq_true, Bool.and_eq_true] at h; exact h.1.1
  ⟨.Assign [.Name y p'] (eComp x i px it sc elt pos hc).x p, fun σ => bd ((eComp x i px it sc elt pos hc).ev σ) fun o σ => setL j o σ,
  (eComp x i px it sc elt pos hc).eo.bd (R := fun o ρ fl ρ' => fl = .next ∧ ρ' = ρ.set j (some o)) (fun _ => .setL fun _ => ⟨rfl, rfl⟩) fun _ _ _ _ _ ha q X E W φ s e c S F Q k => by
    obtain ⟨rfl, rfl⟩ := q
    rw [Bool.and_eq_true, Bool.and_eq_true, bne_iff_ne] at h
    refine wpAny_Assign_Name (ha X E W φ s e S F _ fun v' W' φ' s' p' r' => store_ok S (.inr c) p'.f r' (e ▸ h.1.2) fun φ2 s2 A B => k _ _ _ _ A (p'.ag.trans B) rfl) ?_
    show (pure (X.env.blockKind == .function && X.env.kindOf y == some .local && p'.line == pos.line && !(sc.names.any fun (n, k) => n == y && (k == .local || k == .cell))) : Sem Bool) = _
    have hk : (X.env.kindOf y == some .local) = false := by rw [S.kind, e, beq_eq_false_iff_ne]; exact h.2
    rw [hk, Bool.and_false, Bool.false_and, Bool.false_and]⟩
noncomputable def eVarF (x : Str) (i : Nat) (p : Pos) (h : fi.isVar x i = true) : T G d fi := .mk' (.Name x p) (evVar i) rfl (evVar_ok h) fun _ => rfl
noncomputable def eGlobI (x : Str) (i : Int) (p : Pos) (h : fi.isGlob x = true) (hv : ∀ C, G.mo C → GVal C x (.int i)) : T G d fi :=
  .mk' (.Name x p) (pu (.val (.int i))) rfl (.pu fun ρ X E W φ s e S F Q k => by
    obtain ⟨v', e1, t, rfl⟩ := hv X.C S.g.mo
    exact glob_ok S F (e ▸ h) e1 (k _ _ _ _ (.refl F) (.val ⟨t, rfl⟩))) fun _ => rfl
noncomputable def eGlobS (x : Str) (z : List Nat) (p : Pos) (h : fi.isGlob x = true) (hv : ∀ C, G.mo C → GVal C x (.str z)) : T G d fi :=
  .mk' (.Name x p) (pu (.val (.str z))) rfl (.pu fun ρ X E W φ s e S F Q k => by
    obtain ⟨v', e1, t, rfl, ok⟩ := hv X.C S.g.mo
    exact glob_ok S F (e ▸ h) e1 (k _ _ _ _ (.refl F) (.val ⟨t, rfl, ok⟩))) fun _ => rfl
noncomputable def evIn (n : Bool) (ss : List (List Nat)) (a : T G d fi) (σ : St) : Option (Bool × St) := bd (a.ev σ) fun u σ => u.frz.str?.bind fun z => told Tk.b? (fun _ t => t = Bool.casesOn n (ss.any (· == z)) (!ss.any (· == z))) id (fun _ ρ => ρ) σ
theorem evIn_ok (n : Bool) (a : T G d fi) (x : Str) (l : List V) (ss : List (List Nat)) (xp : Pos) (h : fi.isGlob x = true) (hl : textsOf l = some ss) (hv : ∀ C, G.mo C → GVal C x (.tup l)) :
    Ok (evIn n ss a) (CmG G d fi (Bool.casesOn n .In .NotIn) a.x (.Name x xp)) :=
  a.eo.bd (R := fun u ρ t ρ' => ∃ z, u.frz = .str z ∧ t = Bool.casesOn n (ss.any (· == z)) (!ss.any (· == z)) ∧ ρ = ρ') (fun u σ t σ' e q => by
    obtain ⟨z, e1, e⟩ := Option.bind_eq_some_iff.mp e
    obtain ⟨q1, q2, q3⟩ := Ok.told (f := Tk.b?) (p := fun _ t => t = Bool.casesOn n (ss.any (· == z)) (!ss.any (· == z))) (r := id) (ρ := fun _ ρ => ρ) (S := fun ρ t ρ' => t = Bool.casesOn n (ss.any (· == z)) (!ss.any (· == z)) ∧ ρ = ρ') (fun t ρ q => ⟨q, rfl⟩) σ t σ' e q
    exact ⟨q1, z, V.str_of e1, q2, q3⟩) fun _ u _ t _ h1 q X E W φ s e S F Q kk => by
    obtain ⟨z, e1, rfl, rfl⟩ := q
    obtain ⟨v', m1, r⟩ := hv X.C S.g.mo
    refine h1.v X E W φ s e S F _ fun u' W₁ φ₁ s₁ p₁ r₁ => glob_ok S p₁.f (e ▸ h) m1 ?_
    rw [e1] at r₁
    obtain ⟨tk, rfl, ok, _⟩ := r₁
    obtain ⟨a, vs, m, rfl, _, h1, h2, h3⟩ := VR.tup (VR.ag (Wh.ag S p₁.f) r)
    have hs := texts_are h3 hl
    have ea := any_str z ss
    have kk := kk _ _ _ p₁
    cases n with
    | false => exact PyProof.Rows.in_tuple_strs ⟨_, h1, rfl, _, rfl⟩ hs (by rw [ea]; exact kk)
    | true => exact PyProof.Rows.notin_tuple_strs ⟨_, h1, rfl, _, rfl⟩ hs (by rw [ea]; exact kk)
noncomputable def eInG (n : Bool) (a : T G d fi) (x : Str) (l : List V) (ss : List (List Nat)) (xp p : Pos) (h : fi.isGlob x = true) (hl : textsOf l = some ss) (hv : ∀ C, G.mo C → GVal C x (.tup l)) : T G d fi :=
  .cmp (Bool.casesOn n .In .NotIn) a.x (.Name x xp) p rfl (evIn n ss a) (evIn_ok n a x l ss xp h hl hv)
noncomputable def eDicG (x : Str) (kvs : List (List Nat × Int)) (k : T G d fi) (xp p : Pos) (h : fi.isGlob x = true) (hv : ∀ C, G.mo C → GDic C x kvs) : T G d fi :=
  .mk' (.Subscript (.Name x xp) k.x p) (fun σ => bd (k.ev σ) fun y σ => y.frz.str?.bind fun z => (kvs.lookup z).bind fun i => pu (.val (.int i)) σ) rfl
    (k.eo.bd (R := fun y ρ o ρ' => ∃ z i, y.frz = .str z ∧ kvs.lookup z = some i ∧ o = .val (.int i) ∧ ρ = ρ') (fun y σ o σ' e q => by
      obtain ⟨z, e1, e⟩ := Option.bind_eq_some_iff.mp e
      obtain ⟨i, e2, e⟩ := Option.bind_eq_some_iff.mp e
      cases e; exact ⟨q, z, i, V.str_of e1, e2, rfl, rfl⟩) fun _ y _ _ _ hk q X E W φ s e S F Q kk => by
      obtain ⟨z, i, e1, e2, rfl, rfl⟩ := q
      obtain ⟨a, kws, m1, hd, hz⟩ := hv X.C S.g.mo
      obtain ⟨t, ht⟩ := hz z i e2
      refine PyProof.Rows.Subscript_ (glob_ok S F (e ▸ h) m1 (hk.v X E W φ s e S F _ fun y' W₂ φ₂ s₂ p₂ r₂ => ?_))
      rw [e1] at r₂
      obtain ⟨u, rfl, _⟩ := r₂
      have hd2 := hd.keep (p₂.f.keep S)
      exact PyProof.Rows.tail_any (T := "dict") hd2.typeIs PySem.F.slot_dict_getitem.lookup (wpAny_getItem_of (knd := strKind X.C.prog X.C.w) (k := ⟨z.toArray⟩) (by simp [strKind, Value.isStrOf]) hd2.mapOf ht
        (kk _ _ _ _ ⟨p₂.f.toks (s₂.toks + 1), p₂.ag, p₂.vl⟩ (.val ⟨t, rfl⟩))) (slice_plain k.pl _ _)) fun _ => rfl

noncomputable def evCh (f g : Int → Int → Bool) (a b c : T G d fi) (σ : St) : Option (Bool × St) :=
  bd (a.ev σ) fun x σ => bd (b.ev σ) fun y σ => x.frz.int?.bind fun i => y.frz.int?.bind fun j => bd (dec true (f i j) σ) fun t σ => Bool.casesOn t (pu false σ) (bd (c.ev σ) fun z σ => z.frz.int?.bind fun k => pu (g j k) σ)
def ChS (G : Gl) (d : Nat) (fi : FI) (f g : Int → Int → Bool) (a b c : Expr) (ρ : Loc) (t : Bool) (ρ' : Loc) : Prop := ∃ x i ρ₁ y j ρ₂, EvG G d fi a ρ x ρ₁ ∧ x.frz = .int i ∧ EvG G d fi b ρ₁ y ρ₂ ∧ y.frz = .int j ∧
  ((f i j = false ∧ t = false ∧ ρ' = ρ₂) ∨ (f i j = true ∧ ∃ z k, EvG G d fi c ρ₂ z ρ' ∧ z.frz = .int k ∧ t = g j k))
theorem evCh_ok (f g : Int → Int → Bool) (a b c : T G d fi) : Ok (evCh f g a b c) (ChS G d fi f g a.x b.x c.x) := by
  intro σ t σ' e q
  obtain ⟨⟨x, σ₁⟩, e1, e⟩ := Option.bind_eq_some_iff.mp e
  obtain ⟨⟨y, σ₂⟩, e2, e⟩ := Option.bind_eq_some_iff.mp e
  obtain ⟨i, e3, e⟩ := Option.bind_eq_some_iff.mp e
  obtain ⟨j, e4, e⟩ := Option.bind_eq_some_iff.mp e
  obtain ⟨⟨t', σ₃⟩, e5, e⟩ := Option.bind_eq_some_iff.mp e
  cases t' with
  | false =>
    cases e
    obtain ⟨q3, z1, z2⟩ := Ok.dec true (f i j) _ _ _ e5 q
    obtain ⟨q2, h2⟩ := b.eo _ _ _ e2 q3
    obtain ⟨q1, h1⟩ := a.eo _ _ _ e1 q2
    exact ⟨q1, x, i, _, y, j, _, h1, V.int_of e3, h2, V.int_of e4, .inl ⟨z1.symm, rfl, z2.symm⟩⟩
  | true =>
    obtain ⟨⟨z, σ₄⟩, e6, e⟩ := Option.bind_eq_some_iff.mp e
    obtain ⟨k, e7, e⟩ := Option.bind_eq_some_iff.mp e
    cases e
    obtain ⟨q4, h3⟩ := c.eo _ _ _ e6 q
    obtain ⟨q3, z1, z2⟩ := Ok.dec true (f i j) _ _ _ e5 q4
    obtain ⟨q2, h2⟩ := b.eo _ _ _ e2 q3
    obtain ⟨q1, h1⟩ := a.eo _ _ _ e1 q2
    exact ⟨q1, x, i, _, y, j, _, h1, V.int_of e3, h2, V.int_of e4, .inr ⟨z1.symm, z, k, z2 ▸ h3, V.int_of e7, rfl⟩⟩
abbrev OrdOp (op : CmpOp) (f : Int → Int → Bool) : Prop := ∀ (C : Cx) (A : Around) (E : Value → Shared → Prop) (s : Shared) (i j : Int) (t u : Tok) (Q : Value → Shared → Prop), Q (.bool (f i j)) s → wpAny C.M A (compareOp op (.int i t) (.int j u)) Q E s
noncomputable def eChn (op op' : CmpOp) (f g : Int → Int → Bool) (hf : OrdOp op f) (hg : OrdOp op' g) (a b c : T G d fi) (p : Pos) (hm : lastMarks [op, op'] [b.x, c.x] = false) : T G d fi :=
  have ev : Ok (fun σ => bd (evCh f g a b c σ) fun t σ => pu (O.val (.bool t)) σ) (EvG G d fi (.Compare a.x [op, op'] [b.x, c.x] p)) :=
    (evCh_ok f g a b c).bd (R := fun t ρ o ρ' => o = .val (.bool t) ∧ ρ = ρ') (fun t => .pu fun _ => ⟨rfl, rfl⟩) fun _ t _ _ _ h q X E W φ s e S F Q k => by
      obtain ⟨rfl, rfl⟩ := q
      obtain ⟨x, i, ρ₁, y, j, ρ₂, h1, e1, h2, e2, h3⟩ := h
      refine PyProof.Rows.Compare_chain (h1.v X E W φ s e S F _ fun x' W₁ φ₁ s₁ p₁ r₁ => PyProof.Rows.chain_link (h2.v X E W₁ φ₁ s₁ e S p₁.f _ fun y' W₂ φ₂ s₂ p₂ r₂ => ?_)) hm
      rw [e1] at r₁; rw [e2] at r₂
      obtain ⟨t1, rfl⟩ := r₁; obtain ⟨t2, rfl⟩ := r₂
      refine hf _ _ _ _ _ _ _ _ _ (wpAny_truthy_bool ?_)
      rcases h3 with ⟨h3, rfl, rfl⟩ | ⟨h3, z, k', h4, e3, rfl⟩
      · rw [h3]; exact k _ _ _ _ (p₁.trans p₂) (.val rfl)
      · rw [h3]
        refine PyProof.Rows.chain_last (h4.v X E W₂ φ₂ s₂ e S p₂.f _ fun z' W₃ φ₃ s₃ p₃ r₃ => ?_)
        rw [e3] at r₃
        obtain ⟨t3, rfl⟩ := r₃
        exact hg _ _ _ _ _ _ _ _ _ (k _ _ _ _ ((p₁.trans p₂).trans p₃) (.val rfl))
  ⟨.Compare a.x [op, op'] [b.x, c.x] p, _, _, evCh f g a b c, rfl, ev, ev.mono fun _ _ _ h => h.pk, (evCh_ok f g a b c).mono fun ρ t ρ' h X E W φ s e S F Q k => by
      obtain ⟨x, i, ρ₁, y, j, ρ₂, h1, e1, h2, e2, h3⟩ := h
      refine PyProof.Rows.isTrue_chain (h1.v X E W φ s e S F _ fun x' W₁ φ₁ s₁ p₁ r₁ => PyProof.Rows.test_link (h2.v X E W₁ φ₁ s₁ e S p₁.f _ fun y' W₂ φ₂ s₂ p₂ r₂ => ?_)) hm
      rw [e1] at r₁; rw [e2] at r₂
      obtain ⟨t1, rfl⟩ := r₁; obtain ⟨t2, rfl⟩ := r₂
      refine hf _ _ _ _ _ _ _ _ _ (wpAny_truthy_bool ?_)
      rcases h3 with ⟨h3, rfl, rfl⟩ | ⟨h3, z, k', h4, e3, rfl⟩
      · rw [h3]; exact k _ _ _ (p₁.trans p₂)
      · rw [h3]
        refine PyProof.Rows.test_last (h4.v X E W₂ φ₂ s₂ e S p₂.f _ fun z' W₃ φ₃ s₃ p₃ r₃ => ?_)
        rw [e3] at r₃
        obtain ⟨t3, rfl⟩ := r₃
        exact hg _ _ _ _ _ _ _ _ _ (wpAny_truthy_bool (k _ _ _ ((p₁.trans p₂).trans p₃)))⟩
noncomputable def eLtLt (a b c : T G d fi) (p : Pos) (hm : lastMarks [.Lt, .Lt] [b.x, c.x] = false) : T G d fi := eChn .Lt .Lt (fun i j => decide (i < j)) (fun i j => decide (i < j)) (fun _ _ _ _ _ _ _ _ _ k => P.lt_int k) (fun _ _ _ _ _ _ _ _ _ k => P.lt_int k) a b c p hm
noncomputable def eLeLe (a b c : T G d fi) (p : Pos) (hm : lastMarks [.LtE, .LtE] [b.x, c.x] = false) : T G d fi := eChn .LtE .LtE (fun i j => decide (i ≤ j)) (fun i j => decide (i ≤ j)) (fun _ _ _ _ _ _ _ _ _ k => P.le_int k) (fun _ _ _ _ _ _ _ _ _ k => P.le_int k) a b c p hm

noncomputable def kNotInS (x : V) (y : O) : Option (Bool × List Prop) := y.val?.bind fun y => x.str?.bind fun c => y.str?.bind fun z => List.casesOn c none fun a r => List.casesOn r (some (!z.contains a, [])) fun _ _ => none
theorem primNotInS : PrimC G d .NotIn kNotInS := by
  intro x y t ps e q X E W φ s ρ S F x' y' rx ry Q k
  obtain ⟨v, e1, e⟩ := Option.bind_eq_some_iff.mp e
  obtain ⟨c, e2, e⟩ := Option.bind_eq_some_iff.mp e
  obtain ⟨z, e3, e⟩ := Option.bind_eq_some_iff.mp e
  rw [O.val_of e1, V.str_of e3] at ry; rw [V.str_of e2] at rx
  obtain ⟨t1, rfl, _⟩ := rx; obtain ⟨t2, rfl, _⟩ := ry
  cases c with
  | nil => cases e
  | cons a r =>
  cases r with
  | cons _ _ => cases e
  | nil =>
  cases e
  refine P.notIn_str ?_
  have := PySem.StrLaws.found_one ⟨z.toArray⟩ a
  rw [show (⟨[a].toArray⟩ : Str) = ⟨#[a]⟩ from rfl, this]
  have e : (decide (a ∈ (⟨z.toArray⟩ : Str).cps.toList)) = z.contains a := by simp
  rw [e]; exact k s.toks
noncomputable def eNotInS : T G d fi → T G d fi → Pos → T G d fi := eCmp .NotIn kNotInS primNotInS

noncomputable def kMulS (x y : V) : Option (O × List Prop) := x.str?.bind fun z => y.int?.bind fun n => List.casesOn z none fun a r => List.casesOn r (some (.val (.str (List.replicate n.toNat a)), [1 ≤ n ∧ n ≤ 1000])) fun _ _ => none
theorem rep_flat (a : Nat) (n : Nat) : ((List.replicate n #[a]).foldl (· ++ ·) #[] : Array Nat) = (List.replicate n a).toArray := by
  have key : ∀ (n : Nat) (l : List Nat), (List.replicate n #[a]).foldl (· ++ ·) l.toArray = (l ++ List.replicate n a).toArray := by
    intro n
    induction n with
    | zero => intro l; simp
    | succ n ih =>
      intro l
      rw [List.replicate_succ, List.foldl_cons, List.replicate_succ]
      have := ih (l ++ [a])
      rw [show l.toArray ++ #[a] = (l ++ [a]).toArray by simp, this]
      simp
  exact key n []
theorem primMulS : Prim2 G d (binaryOp .Mult) kMulS := by
  intro x y o ps e q X E W φ s ρ S F x' y' rx ry Q k
  obtain ⟨z, e1, e⟩ := Option.bind_eq_some_iff.mp e
  obtain ⟨n, e2, e⟩ := Option.bind_eq_some_iff.mp e
  rw [V.str_of e1] at rx; rw [V.int_of e2] at ry
  obtain ⟨t1, rfl, ok, hz⟩ := rx; obtain ⟨t2, rfl⟩ := ry
  cases z with
  | nil => cases e
  | cons a r =>
  cases r with
  | cons _ _ => cases e
  | nil =>
  cases e
  obtain ⟨q1, q2⟩ : 1 ≤ n ∧ n ≤ 1000 := q.1
  have hok : PyData.strOk ⟨(List.replicate n.toNat a).toArray⟩ = true := strOk_of ok fun c hc => by
    have := List.eq_of_mem_replicate (by simpa using hc : c ∈ List.replicate n.toNat a); simp [this]
  have hlen : (List.replicate n.toNat a).length ≤ sizeLine := by rw [List.length_replicate, sizeLine_eq]; omega
  have hx : (⟨[a].toArray⟩ : Str).length = 1 := rfl
  refine P.mul_str (by rw [Bool.or_eq_false_iff, decide_eq_false_iff_not, decide_eq_false_iff_not]; omega) (fun _ _ => ?_) (fun _ _ => ?_) ?_
  · rw [hx]
    exact Int.not_lt.mpr ((Int.le_ediv_iff_mul_le (show 0 < n by omega)).mpr (by show ((1 : Nat) : Int) * n ≤ _; omega))
  · rw [hx]
    unfold Builtin.Str.tooLong
    rw [decide_eq_false_iff_not, sizeLine_eq]; omega
  · rw [if_neg (by omega)]
    split
    · rename_i h1
      have h1 : n = 1 := by simpa [hx] using h1
      subst h1
      exact k.here F.f.wf ⟨t1, rfl, ok, hz⟩
    · rw [show ((⟨[a].toArray⟩ : Str).cps) = #[a] from rfl, rep_flat]
      exact ⟨by simpa [Str.length] using hlen, k.here F.f.wf ⟨_, rfl, hok, hlen⟩⟩
noncomputable def eMulS : T G d fi → T G d fi → Pos → T G d fi := eBin .Mult kMulS primMulS
end
end Mine
end

section
open PySem
set_option autoImplicit false
set_option linter.unusedVariables false
namespace Mine
open PySem.W (Frag kitOne keepIn Looks)

abbrev mroV : List Value := [.type "ValueError", .type "Exception", .type "BaseException", .type "object"]
structure ExOk (C : Cx) (x : Str) (c : Addr) : Prop where
  mg : C.mg x = some (.ref c)
  obj : ∃ nm q N bs bm hdct sn sub ab col dd k0 k1 k2 k3 k5 newId Bn inN bmN mN, ExcBaseFacts Bn newId inN bmN ∧ mroV.contains (.type Bn) = true ∧ C.h.get? c = some (excClassObj nm q c N bs bm hdct sn sub ab col dd k0 k1 k2 k3 k5 newId) ∧ C.h.Ns N mN ∧ mN "__init__" = none ∧ OwnTail C.h mroV bm

structure FX (X : FC) (outer : List Env) : Prop where
  fr : X.A.frames = some (X.env :: outer)
  me : X.env.frame = some X.env.locals
  nw : X.C.h.get? X.env.locals = none
  out : ∀ h : Heap, (∀ a o, X.pin a = some o → h.get? a = some o) → h.FunFrames X.C.h outer
def PinUp (X : FC) (h : Heap) : Prop := ∀ b o, X.pin b = some o → (∀ vs, o.data ≠ .fields vs) → ∃ sl, h.get? b = some { o with slots := sl }
def Mde (X : FC) (outer : List Env) (c e : Addr) (s : Shared) : Prop := (∃ h vs, Heap.MadeExcOf h s.heap e (.ref c) vs ∧ X.C.h.StaysIn h ∧ h.FunFrames X.C.h (X.env :: outer) ∧ ∀ b o, X.pin b = some o → h.get? b = some o) ∧ s.gens = #[] ∧ s.os = X.C.os
def Hld (X : FC) (outer : List Env) (c e : Addr) (s : Shared) : Prop := (∃ a0, Heap.HeldW X.C.h (X.env :: outer) e (.ref c) a0 X.env.locals s.heap) ∧ PinUp X s.heap ∧ s.gens = #[] ∧ s.os = X.C.os
def Fly (C : Cx) (outer : List Env) (h : Heap) (c e : Addr) (s : Shared) : Prop := (∃ a0, Heap.FlyingW C.h outer e (.ref c) a0 s.heap) ∧ h.UpToSlots s.heap ∧ s.gens = #[] ∧ s.os = C.os
def Bas (C : Cx) (s : Shared) : Prop := (∀ a o, C.h.get? a = some o → s.heap.get? a = some o) ∧ s.gens = #[] ∧ s.os = C.os

section
variable {G : Gl} {d : Nat} {fi : FI} {X : FC} {outer : List Env} {c e : Addr} {s : Shared} {E : Value → Shared → Prop} {W : WS} {φ : Nat → List Addr} {ρ : Loc}
theorem FX.frames (S : FS G d X) (Z : FX X outer) (F : At X W φ s ρ) : s.heap.FunFrames X.C.h (X.env :: outer) := by
  obtain ⟨o, es, ep, ho, hd, _⟩ := F.f.ns
  exact ⟨by rw [S.fn]; decide, ⟨_, o, Z.me, Z.nw, ho, fun vs q => by rw [hd] at q; cases q⟩, Z.out _ F.f.pin⟩
theorem note_made {Q : Unit → Shared → Prop} (Z : FX X outer) (m : Mde X outer c e s) (k : ∀ s', Hld X outer c e s' → Q () s') : wpAny X.C.M X.A (noteFrame (.ref e) X.env) Q E s := by
  obtain ⟨⟨h, vs, hx, hkb, hl, hp⟩, hg, ho⟩ := m
  obtain ⟨t, he, htn, ht⟩ := hx.there
  have fresh : ∀ b, h.get? b = none → X.C.h.get? b = none := fun b hb => by
    cases hq : X.C.h.get? b with
    | none => rfl
    | some o' => have := hkb b o' hq; rw [hb] at this; cases this
  unfold noteFrame
  simp only [Z.me]
  refine wpAny_bind (wpAny_field (x := .none) he rfl rfl ?_)
  rw [if_neg (by decide)]
  refine wpAny_entryW (base := X.C.h) (a0 := .ref t) Z.fr (hl.of_keeps fun b o hb _ => ⟨o, hx.keeps b o hb, rfl⟩) Z.me he (fun b o hb => hx.keeps b o (hkb b o hb)) (fresh e hx.new) rfl (show 1 < 6 by decide) rfl fun h' hL => ?_
  obtain ⟨k1, k2, k3, k4⟩ := hL
  exact k _ ⟨⟨_, k1, fresh e hx.new, k2, k3⟩, fun b o hb hn => k4 b o (hx.keeps b o (hp b o hb)) hn, hg, ho⟩
theorem came_held (Z : FX X outer) (m : Hld X outer c e s) (k : ∀ s', Hld X outer c e s' → E (.ref e) s') : cameBackBy X.C.M X.A X.env E (.ref e) s := by
  obtain ⟨⟨a0, h1, h2, h3, h4⟩, hp, hg, ho⟩ := m
  obtain ⟨oe, vs, T, oT, ts, he, hc, hd, hv, hnT, hTe, hT, hdT, hts⟩ := id h4
  have hsz3 : 3 < ts.size := (Array.getElem?_eq_some_iff.mp hts).1
  unfold cameBackBy
  rw [Z.me]
  refine wpAny_bind (wpAny_field he hd hv ?_)
  rw [if_neg (show ¬ ((Value.ref T == Value.none) = true) from by simp)]
  have fin : wpAny X.C.M X.A (setFlight (.ref e) (some X.env.locals)) (fun _ s' => E (.ref e) s') E s := by
    have other : ∀ b, b ≠ T → (s.heap.update T (Obj.mapFields (·.setIfInBounds 3 ((some X.env.locals).elim Value.none fun f => rawInt f)))).get? b = s.heap.get? b := fun b hb => Heap.get?_update_other _ _ (Ne.symm hb)
    have noRecord : ∀ b o, s.heap.get? b = some o → (∀ vs, o.data ≠ .fields vs) → b ≠ T := fun b o hb hnf q => by
      rw [q, hT] at hb; injection hb with hb; subst hb; exact hnf ts hdT
    unfold setFlight
    refine wpAny_bind (wpAny_field he hd hv ?_)
    rw [if_pos (show (Value.ref T != Value.none) = true from by simp)]
    refine wpAny_setField hT hdT hsz3 (k _ ⟨⟨a0, fun b o hb => (other b fun q => by rw [q, hnT] at hb; cases hb).trans (h1 b o hb), h2, h3.of_keeps fun b o hb hnf => ⟨o, (other b (noRecord b o hb hnf)).trans hb, rfl⟩, ?_⟩, fun b o hb hn => ?_, hg, ho⟩)
    · exact ⟨oe, vs, T, _, _, (other e (Ne.symm hTe)).trans he, hc, hd, hv, hnT, hTe, Heap.get?_update_self _ hT (Obj.isFreed_of_fields (Obj.data_mapFields hdT _)), Obj.data_mapFields hdT _, by simp [hsz3]⟩
    · obtain ⟨sl, z⟩ := hp b o hb hn
      exact ⟨sl, (other b (noRecord b _ z hn)).trans z⟩
  first | exact fin | exact wpAny_bind (wpAny_pure fin)
theorem leave_held {Q : Unit → Shared → Prop} (Z : FX X outer) (m : Hld X outer c e s) (k : ∀ s' a0, Heap.FlyingW X.C.h outer e (.ref c) a0 s'.heap → PinUp X s'.heap → s'.gens = #[] → s'.os = X.C.os → Q () s') : wpAny X.C.M X.A (leaving X.env (.ref e)) Q E s := by
  obtain ⟨⟨a0, hh⟩, hp, hg, ho⟩ := m
  unfold leaving
  refine wpAny_bind (wpAny_noteFrame_againW Z.me hh.2.2.2 (wpAny_landsW hh fun h' hfl up => ?_))
  obtain ⟨k1, k2, ⟨_, _, k3⟩, k4⟩ := hfl
  refine k _ a0 ⟨k1, k2, k3, k4⟩ (fun b o hb hn => ?_) hg ho
  obtain ⟨sl, z⟩ := hp b o hb hn
  exact up b { o with slots := sl } z hn
end

section
variable (G : Gl) (d : Nat) (fi : FI) (cN : Addr)
def ErsG (xs : List Stmt) (ρ : Loc) : Prop := ∀ (X : FC) (E : Value → Shared → Prop) (W : WS) (φ : Nat → List Addr) (s : Shared) (outer : List Env), X.fi = fi → X.cm = true → FS G d X → FX X outer → At X W φ s ρ →
  ∀ Q : Flow → Shared → Prop, (∀ e s', Mde X outer cN e s' → E (.ref e) s') → wpAny X.C.M X.A (execs xs X.env) Q E s
def WhErr (c : Expr) (b : List Stmt) (ρ : Loc) : Prop := ∀ (X : FC) (W : WS) (φ : Nat → List Addr) (s : Shared) (outer : List Env), X.fi = fi → X.cm = true → FS G d X → FX X outer → At X W φ s ρ →
  ∀ R : Result → Shared → Prop, (∀ e s', Hld X outer cN e s' → R (.error (.ref e)) s') → codeAny X.C.M X.A (.whileLoop c b [] X.env) R s
def EhsG (xs : List Stmt) (ρ : Loc) : Prop := ∀ (X : FC) (E : Value → Shared → Prop) (W : WS) (φ : Nat → List Addr) (s : Shared) (outer : List Env), X.fi = fi → X.cm = true → FS G d X → FX X outer → At X W φ s ρ →
  ∀ Q : Flow → Shared → Prop, (∀ e s', Hld X outer cN e s' → E (.ref e) s') → wpAny X.C.M X.A (execs xs X.env) Q E s
def ExsW (xs : List Stmt) (ρ : Loc) : Prop := ∀ (X : FC) (E : Value → Shared → Prop) (W : WS) (φ : Nat → List Addr) (s : Shared) (outer : List Env), X.fi = fi → X.cm = true → FS G d X → FX X outer → At X W φ s ρ →
  ∀ Q : Flow → Shared → Prop, (∀ s', Bas X.C s' → Q (.ret (.bool true)) s') → wpAny X.C.M X.A (execs xs X.env) Q E s
def RCall (a : Addr) (args : List V) : Prop := ∀ (C : Cx) (A : Around) (W : WS) (s : Shared) (vals : List Value) (R : Result → Shared → Prop) (outer : List Env), GOk G C → A.handled = none → A.depth + 2 * d + 9 ≤ recursionLimit → A.units + 20 * d + deep + 90 < cLine →
  (∀ b o, C.h.get? b = some o → s.heap.get? b = some o) → s.gens = #[] → s.os = C.os → (∀ a, W a → ∃ o, s.heap.get? a = some o) → VRs W s.heap args vals → A.frames = some outer → s.heap.FunFrames C.h outer →
  (∀ e s', Fly C outer s.heap cN e s' → R (.error (.ref e)) s') → codeAny C.M A (.call (.ref a) ⟨vals, []⟩) R s
def WCall (a : Addr) (args : List V) : Prop := ∀ (C : Cx) (A : Around) (W : WS) (s : Shared) (vals : List Value) (R : Result → Shared → Prop) (outer : List Env), GOk G C → A.handled = none → A.depth + 2 * d + 9 ≤ recursionLimit → A.units + 20 * d + deep + 90 < cLine →
  (∀ b o, C.h.get? b = some o → s.heap.get? b = some o) → s.gens = #[] → s.os = C.os → (∀ a, W a → ∃ o, s.heap.get? a = some o) → VRs W s.heap args vals → A.frames = some outer → s.heap.FunFrames C.h outer →
  (∀ s', Bas C s' → R (.ok (.ret (.bool true))) s') → codeAny C.M A (.call (.ref a) ⟨vals, []⟩) R s
end
structure SE (G : Gl) (d : Nat) (fi : FI) (cN : Addr) where
  xs : List Stmt
  ex : St → Option (Unit × St)
  eo : Ok ex fun ρ _ _ => ErsG G d fi cN xs ρ
structure SH (G : Gl) (d : Nat) (fi : FI) (cN : Addr) where
  xs : List Stmt
  ex : St → Option (Unit × St)
  eo : Ok ex fun ρ _ _ => EhsG G d fi cN xs ρ
structure SW (G : Gl) (d : Nat) (fi : FI) where
  xs : List Stmt
  ex : St → Option (Unit × St)
  eo : Ok ex fun ρ _ _ => ExsW G d fi xs ρ

section
variable {G : Gl} {d : Nat} {fi : FI} {cN : Addr}
noncomputable def nextO (fl : Fl) (x : Option (Unit × St)) : Option (Unit × St) := Fl.casesOn fl x fun _ => none
noncomputable def xCons (a : SS G d fi) (b : SE G d fi cN) : SE G d fi cN := ⟨a.x :: b.xs, fun σ => bd (a.ex σ) fun fl σ => nextO fl (b.ex σ),
  a.eo.bd (R := fun f ρ _ _ => f = .next ∧ ErsG G d fi cN b.xs ρ) (fun f => by
    cases f with
    | next => exact b.eo.mono fun _ _ _ h => ⟨rfl, h⟩
    | ret o => exact .none fun _ => rfl) fun ρ f ρ₁ _ _ h q X E W φ s outer e c S Z F Q k => by
    obtain ⟨rfl, q⟩ := q
    exact wpAny_execs_cons (h X E W φ s e c S F _ fun f' W' φ' s' A B C => by cases C; exact q X E W' φ' s' outer e c S Z A Q k)⟩
noncomputable def xIf (f : Bool) (c : T G d fi) (a : SE G d fi cN) (b rest : List Stmt) (p : Pos) : SE G d fi cN := ⟨.If c.x a.xs b p :: rest, fun σ => bd (c.tr σ) fun t σ => bd (dec f t σ) fun t σ => Bool.casesOn t none (a.ex σ),
  c.to.bd (R := fun t ρ _ _ => t = true ∧ ErsG G d fi cN a.xs ρ) (fun t => (Ok.dec f t).bd (R := fun t ρ _ _ => t = true ∧ ErsG G d fi cN a.xs ρ) (fun t => by
    cases t
    · exact .none fun _ => rfl
    · exact a.eo.mono fun _ _ _ h => ⟨rfl, h⟩) fun _ t _ _ _ h q => by obtain ⟨rfl, rfl⟩ := h; exact q) fun _ t _ _ _ h q X E W φ s outer e c S Z F Q k => by
    obtain ⟨rfl, q⟩ := q
    exact wpAny_execs_cons (wpAny_If (h X E W φ s e S F _ fun W' φ' s' p' => q X E W' φ' s' outer e c S Z p'.f _ k))⟩
noncomputable def xRaise (x : Str) (m : Str) (k : Nat) (np sp cp p : Pos) (rest : List Stmt) (h : fi.isGlob x = true) (hc : ∀ C, G.mo C → ExOk C x cN) : SE G d fi cN :=
  ⟨.Raise (some (.Call (.Name x np) [.Constant (.str m) k sp] [] cp)) none p :: rest, pu (), .pu fun ρ X E W φ s outer e cm S Z F Q kk => wpAny_execs_cons (by
    obtain ⟨hm, nm, q, N, bs, bm, hdct, sn, sub, ab, col, dd, k0, k1, k2, k3, k5, newId, Bn, inN, bmN, mN, Fn, hBn, hC, hN, hni, T⟩ := hc X.C S.g.mo
    have hkp := F.keep S
    have hpl : backTo cp (starEach [.Constant (.str m) k sp] X.env) = plainArgs [.Constant (.str m) k sp] X.env := by
      rw [starEach_plain (xs := [.Constant (.str m) k sp]) (fun y q => by cases List.mem_singleton.mp q; rfl), backTo_plain]
    refine wpAny_Raise_call_subU (C := cN) (nm := nm) (q := q) (N := N) (bs := bs) (bm := bm) (hdct := hdct) (sn := sn) (sub := sub) (ab := ab) (col := col) (dd := dd) (k0 := k0) (k1 := k1) (k2 := k2) (k3 := k3) (k5 := k5) Fn hBn PySem.F.excBase_ValueError (T.hasType (by decide)) S.hd (by rw [hpl]; rfl) hni (glob_ok S F (e ▸ h) hm ⟨rfl, ?_⟩)
    rw [hpl]
    refine PySem.Calls.evalArgs_plain (PySem.Calls.spliced_cons (PySem.Calls.Constant_str (PySem.Calls.spliced_nil ⟨rfl, ?_, hkp _ _ hC, hN.keeps hkp, T.keeps hkp, fun h' ee hx => ?_⟩)))
    · show 1 ≤ sizeLine; decide
    · exact kk ee _ ⟨⟨s.heap, _, hx, hkp, Z.frames S F, F.f.pin⟩, F.gens, F.os⟩)⟩
noncomputable def turnE (c : T G d fi) (b : SE G d fi cN) (f : Bool) (σ : St) : Option (Unit × St) := bd (c.tr σ) fun t σ => bd (dec f t σ) fun t σ => Bool.casesOn t none (b.ex σ)
theorem turnE_ok (c : T G d fi) (b : SE G d fi cN) (f : Bool) : Ok (turnE c b f) fun ρ _ _ => WhErr G d fi cN c.x b.xs ρ :=
  c.to.bd (R := fun t ρ _ _ => t = true ∧ ErsG G d fi cN b.xs ρ) (fun t => (Ok.dec f t).bd (R := fun t ρ _ _ => t = true ∧ ErsG G d fi cN b.xs ρ) (fun t => by
    cases t
    · exact .none fun _ => rfl
    · exact b.eo.mono fun _ _ _ h => ⟨rfl, h⟩) fun _ t _ _ _ h q => by obtain ⟨rfl, rfl⟩ := h; exact q) fun _ t _ _ _ h q X W φ s outer e cm S Z F R k => by
    obtain ⟨rfl, q⟩ := q
    exact code_while (h X _ W φ s e S F _ fun W' φ' s' p' => q X _ W' φ' s' outer e cm S Z p'.f _ fun ee s2 m => note_made Z m fun s3 hh => k ee s3 hh)
theorem turn_er (c : T G d fi) (b : SL G d fi) (f : Bool) : Ok (turn c b f) fun ρ r ρ' => r = some .next → WhErr G d fi cN c.x b.xs ρ' → WhErr G d fi cN c.x b.xs ρ :=
  c.to.bd (R := fun t ρ r ρ' => r = some .next → t = true ∧ ExsG G d fi b.xs ρ .next ρ') (fun t => (Ok.dec f t).bd (R := fun t ρ r ρ' => r = some .next → t = true ∧ ExsG G d fi b.xs ρ .next ρ') (fun t => by
    cases t
    · exact .pu fun _ q => nomatch q
    · exact b.eo.bd (R := fun g ρ r ρ' => r = some g ∧ ρ = ρ') (fun g => .pu fun _ => ⟨rfl, rfl⟩) fun _ g _ _ _ h q => by obtain ⟨rfl, rfl⟩ := q; intro q; cases q; exact ⟨rfl, h⟩) fun _ t _ _ _ h q => by obtain ⟨rfl, rfl⟩ := h; exact q)
    fun ρ t ρ₁ r ρ' h q hr k X W φ s outer e cm S Z F R kk => by
      obtain ⟨rfl, hb⟩ := q hr
      exact code_while (h X _ W φ s e S F _ fun W' φ' s' p' => hb X _ W' φ' s' e cm S p'.f _ fun f W2 φ2 s2 A2 B2 C2 => by cases C2; exact k X W2 φ2 s2 outer e cm S Z A2 R kk)
section
variable {c : T G d fi} {b : SL G d fi} {ρ ρ' : Loc} {tp : List Tk} {P : Prop}
theorem whe_now (b : SE G d fi cN) (f : Bool) (e : out (turnE c b f ⟨ρ, tp, []⟩) = some ((), ρ', [])) (o : All (obs (turnE c b f ⟨ρ, tp, []⟩)) = P) (p : P) : WhErr G d fi cN c.x b.xs ρ :=
  (turnE_ok c b f).run e o p
end
noncomputable def hCons (a : SS G d fi) (b : SH G d fi cN) : SH G d fi cN := ⟨a.x :: b.xs, fun σ => bd (a.ex σ) fun fl σ => nextO fl (b.ex σ),
  a.eo.bd (R := fun f ρ _ _ => f = .next ∧ EhsG G d fi cN b.xs ρ) (fun f => by
    cases f with
    | next => exact b.eo.mono fun _ _ _ h => ⟨rfl, h⟩
    | ret o => exact .none fun _ => rfl) fun ρ f ρ₁ _ _ h q X E W φ s outer e c S Z F Q k => by
    obtain ⟨rfl, q⟩ := q
    exact wpAny_execs_cons (h X E W φ s e c S F _ fun f' W' φ' s' A B C => by cases C; exact q X E W' φ' s' outer e c S Z A Q k)⟩
noncomputable def hWhil (c : T G d fi) (b : List Stmt) (p : Pos) (rest : List Stmt) : SH G d fi cN := ⟨.While c.x b [] p :: rest, fun σ => some ((), ⟨σ.ρ, σ.tp, WhErr G d fi cN c.x b σ.ρ :: σ.ob⟩), by
  intro σ a σ' e q
  cases e
  exact ⟨q.2, fun X E W φ s outer e cm S Z F Q k => wpAny_execs_cons (wpAny_While (q.1 X W φ s outer e cm S Z F _ fun ee s' m => came_held Z m fun s2 m2 => k ee s2 m2))⟩⟩
theorem FX.of {C : Cx} {A : Around} {env : Env} {f : FI} {s : Shared} {W : WS} {outer : List Env} (hkeep : ∀ b o, C.h.get? b = some o → s.heap.get? b = some o) (h1 : env.frame = some env.locals) (h2 : env.locals = s.heap.objs.size) (hfr : A.frames = some outer) (hl : s.heap.FunFrames C.h outer) :
    FX ⟨C, A.deeper env, env, f, s.heap.get?, W, true⟩ outer :=
  have nw : C.h.get? env.locals = none := by
    cases q : C.h.get? env.locals with
    | none => rfl
    | some o => have := hkeep _ o q; rw [h2, fresh_size] at this; cases this
  ⟨Around.frames_deeper hfr, h1, nw, fun h hp => hl.of_keeps fun b o hb _ => ⟨o, hp b o hb, rfl⟩⟩
theorem rcall_of {a : Addr} {f : FD} {args : List V} {n : Nat} (hf : G.fd.lookup a = some f) (hn : args.length = f.ps.length) (h : EhsG G d f.fi cN f.st (loc0 args n)) : RCall G (d + 1) cN a args := by
  intro C A W s vals R outer g hh hdp hun hkeep hgens hos wf r hfr hl k
  refine call_gen (n := n) hf hn g hh hdp hun hkeep hgens hos wf r fun env s₁ e1 e2 S F => ?_
  have Z : FX ⟨C, A.deeper env, env, f.fi, s.heap.get?, W, true⟩ outer := .of hkeep e1 e2 hfr hl
  refine h ⟨C, A.deeper env, env, f.fi, s.heap.get?, W, true⟩ _ W _ s₁ outer rfl rfl S Z F _ fun e s' m => ?_
  exact leave_held Z m fun s2 a0 x1 x2 x3 x4 => k e s2 ⟨⟨a0, x1⟩, x2, x3, x4⟩
theorem rcall_go {a : Addr} {f : FD} {args : List V} {n : Nat} {tp : List Tk} {ρ' : Loc} {P : Prop} (B : SH G d f.fi cN) (hf : G.fd.lookup a = some f) (hB : B.xs = f.st) (hn : args.length = f.ps.length)
    (e : out (B.ex ⟨loc0 args n, tp, []⟩) = some ((), ρ', [])) (ob : All (obs (B.ex ⟨loc0 args n, tp, []⟩)) = P) (p : P) : RCall G (d + 1) cN a args :=
  rcall_of hf hn (hB ▸ B.eo.run e ob p)

noncomputable def tru (fl : Fl) (σ : St) : Option (Unit × St) := Fl.casesOn fl none fun o => O.casesOn o (fun v => v.bool?.bind fun t => some ((), ⟨σ.ρ, σ.tp, (t = true) :: σ.ob⟩)) fun _ => none
theorem At.bas {X : FC} {W : WS} {φ : Nat → List Addr} {s : Shared} {ρ : Loc} (F : At X W φ s ρ) (S : FS G d X) : Bas X.C s := ⟨F.keep S, F.gens, F.os⟩
noncomputable def wOf (b : SL G d fi) : SW G d fi := ⟨b.xs, fun σ => bd (b.ex σ) tru,
  b.eo.bd (R := fun f ρ _ _ => f = .ret (.val (.bool true))) (fun f σ u σ' e q => by
    cases f with
    | next => cases e
    | ret o =>
      cases o with
      | own r => cases e
      | val v =>
        obtain ⟨t, e1, e⟩ := Option.bind_eq_some_iff.mp e
        cases e
        obtain ⟨q1, q2⟩ := q
        cases q1
        exact ⟨q2, by rw [V.bool_of e1]⟩) fun ρ f ρ₁ _ _ h q X E W φ s outer e c S Z F Q k => by
    subst q
    exact h X E W φ s e c S F Q fun f' W' φ' s' A B C => by
      obtain ⟨v', rfl, p, r, _⟩ := C
      cases r.2
      exact k _ (A.bas S)⟩
noncomputable def wCons (a : SS G d fi) (b : SW G d fi) : SW G d fi := ⟨a.x :: b.xs, fun σ => bd (a.ex σ) fun fl σ => nextO fl (b.ex σ),
  a.eo.bd (R := fun f ρ _ _ => f = .next ∧ ExsW G d fi b.xs ρ) (fun f => by
    cases f with
    | next => exact b.eo.mono fun _ _ _ h => ⟨rfl, h⟩
    | ret o => exact .none fun _ => rfl) fun ρ f ρ₁ _ _ h q X E W φ s outer e c S Z F Q k => by
    obtain ⟨rfl, q⟩ := q
    exact wpAny_execs_cons (h X E W φ s e c S F _ fun f' W' φ' s' A B C => by cases C; exact q X E W' φ' s' outer e c S Z A Q k)⟩
noncomputable def wIf (f : Bool) (c : T G d fi) (a rest : SW G d fi) (p : Pos) : SW G d fi := ⟨.If c.x a.xs [] p :: rest.xs, fun σ => bd (c.tr σ) fun t σ => bd (dec f t σ) fun t σ => Bool.casesOn t (rest.ex σ) (a.ex σ),
  c.to.bd (R := fun t ρ _ _ => Bool.casesOn (motive := fun _ => Prop) t (ExsW G d fi rest.xs ρ) (ExsW G d fi a.xs ρ)) (fun t => (Ok.dec f t).bd (R := fun t ρ _ _ => Bool.casesOn (motive := fun _ => Prop) t (ExsW G d fi rest.xs ρ) (ExsW G d fi a.xs ρ)) (fun t => by
    cases t
    · exact rest.eo
    · exact a.eo) fun _ t _ _ _ h q => by obtain ⟨rfl, rfl⟩ := h; exact q) fun _ t _ _ _ h q X E W φ s outer e c S Z F Q k => by
    refine wpAny_execs_cons (wpAny_If (h X E W φ s e S F _ fun W' φ' s' p' => ?_))
    cases t
    · exact wpAny_execs_nil (q X E W' φ' s' outer e c S Z p'.f Q k)
    · exact q X E W' φ' s' outer e c S Z p'.f _ fun s2 h2 => k s2 h2⟩
noncomputable def wRet (x : Str) (a : Addr) (r : Rw G d fi) (p' p pr : Pos) (rest : List Stmt) (h : (fi.isGlob x && (G.fn.lookup x == some a)) = true) : SW G d fi := ⟨.Return (some (.Call (.Name x p') r.xs [] p)) pr :: rest, fun σ => bd (r.ev σ) fun vs σ => some ((), ⟨σ.ρ, σ.tp, WCall G d a vs :: σ.ob⟩),
  r.eo.bd (R := fun vs ρ _ _ => WCall G d a vs) (fun vs σ u σ' e q => by cases e; exact ⟨q.2, q.1⟩) fun _ vs _ _ _ hs q X E W φ s outer e c S Z F Q k => by
    rw [Bool.and_eq_true, beq_iff_eq] at h
    obtain ⟨g1, g2⟩ := S.g.fn x a h.2
    refine wpAny_execs_cons (wpAny_Return_some (PyProof.Rows.Call_ (glob_ok S F (e ▸ h.1) g1 ?_)))
    rw [r.back]
    refine callW (K := X.C.K) (fun h hX => PySem.W.keeps_K g2 h hX) (hs.2 X E W φ s e S F _ fun vs' W' φ' s' p' r' => ⟨p'.f.In S, wpAny_call ?_⟩)
    exact q X.C X.A W' s' _ _ _ S.g S.hd (by have := S.dp; omega) (by have := S.un; omega) (p'.f.keep S) p'.f.gens p'.f.os p'.f.f.wf r' Z.fr (Z.frames S p'.f) fun s2 h2 => k s2 h2⟩
theorem wcall_of {a : Addr} {f : FD} {args : List V} {n : Nat} (hf : G.fd.lookup a = some f) (hn : args.length = f.ps.length) (h : ExsW G d f.fi f.st (loc0 args n)) : WCall G (d + 1) a args := by
  intro C A W s vals R outer g hh hdp hun hkeep hgens hos wf r hfr hl k
  refine call_gen (n := n) hf hn g hh hdp hun hkeep hgens hos wf r fun env s₁ e1 e2 S F => ?_
  exact h ⟨C, A.deeper env, env, f.fi, s.heap.get?, W, true⟩ _ W _ s₁ outer rfl rfl S (.of hkeep e1 e2 hfr hl) F _ fun s' b => k s' b
end
end Mine
end

section
open PySem PySem.W
set_option autoImplicit false
set_option linter.unusedVariables false
namespace Mine
open PySem.W (Frag kitOne keepIn Looks)

section
variable {K : Frag} {prog : Program} {w : World} {A : Around} {E : Value → Shared → Prop} {s : Shared} {Q : Value → Shared → Prop}
theorem ans_true {x D : Addr} {cc : Value} (e : kitOne K (.ref D) cc = some true) : Answers (fun s => K.In s.heap ∧ ∃ o, s.heap.get? x = some o ∧ o.cls = .ref D) (.ref x) cc true := by
  intro dep tk prog w A R s hs
  obtain ⟨h0, g, d, tt, os⟩ := s
  obtain ⟨⟨X, o, hx, hc⟩, hq⟩ := hs
  have LT : Looks (model prog w) h0 (typeOf (.ref x)) (.ref D) := hc ▸ (Looks.ld hx).andThen .now
  unfold kitOne at e
  unfold Builtin.«isinstance.nested»
  refine wpAny_bind (LT.at ?_)
  by_cases q : ((Value.ref D) == cc) = true
  · rw [if_pos q]
    first
      | ((repeat lk); exact hq tt)
      | exact wpAny_bind (wpAny_rule (hq tt))
      | exact wpAny_bind (wpAny_rule (wpAny_pure (hq tt)))
  · rw [if_neg q] at e
    rw [if_neg q]
    obtain ⟨hty, his, hsub⟩ := kit_cls (M := model prog w) X e
    have LI : Looks (model prog w) h0 (isInstance (.ref x) cc) true := LT.andThen hsub
    refine wpAny_bind (hty.at ?_)
    rw [if_pos (by decide)]
    k_delta "plainIsInstance"
    refine wpAny_bind (wpAny_bind (his.at ?_))
    simp only [Bool.not_true, Bool.false_eq_true, if_false]
    refine wpAny_bind (LI.at ?_)
    first
      | exact wpAny_pure (wpAny_pure (hq tt))
      | (simp only [if_true]; first | exact wpAny_pure (wpAny_pure (hq tt)) | exact wpAny_pure (hq tt) | exact wpAny_bind (wpAny_pure (wpAny_pure (hq tt))))
theorem isi_exc {x D : Addr} {o : Obj} {cc : Value} (e : kitOne K (.ref D) cc = some true) (X : K.In s.heap) (hx : s.heap.get? x = some o) (hc : o.cls = .ref D) (h : ∀ tk, Q (.bool true) { s with toks := tk }) :
    wpAny (model prog w) A (call (.builtin "isinstance") [.ref x, cc]) Q E s :=
  call_isinstance (S := fun _ R s => (K.In s.heap ∧ ∃ o, s.heap.get? x = some o ∧ o.cls = .ref D) ∧ ∀ tk, R (.ok (.ret (.bool true))) { s with toks := tk })
    (fun prog w A R s hs => isinstance_outer (ans_true e 0 _ prog w A R s hs) (by intro q; cases q)) ⟨⟨X, o, hx, hc⟩, h⟩
end

structure RefOk (C : Cx) (cN cM : Addr) : Prop where
  ex : ExOk C "NoTree" cN
  mi : C.mg "MillError" = some (.ref cM)
  k1 : kitOne C.K (.ref cN) (.ref cM) = some true
  k2 : kitOne C.K (.ref cN) (.type "ValueError") = some true

section
variable {G : Gl} {d : Nat} {X : FC}
theorem isi_call {A : Around} {E : Value → Shared → Prop} {s : Shared} {Q : Value → Shared → Prop} {m : Str → Option Value} {ee cN : Addr} {oe : Obj} {y : Str} {cc : Value} {p p' p'' p3 : Pos} (S : FS G d X) (hk : ∀ b o, X.C.h.get? b = some o → s.heap.get? b = some o) (hn : s.heap.Ns X.env.locals m) (he : m "e" = some (.ref ee))
    (hke : X.fi.names.lookup ("e" : Str) = some .local) (hb : isBi G X.fi "isinstance" = true) (hy : ∀ (E : Value → Shared → Prop) (Q : Value → Shared → Prop), Q cc s → wpAny X.C.M A (eval (.Name y p'') X.env) Q E s) (hkit : kitOne X.C.K (.ref cN) cc = some true) (hx : s.heap.get? ee = some oe) (hc : oe.cls = .ref cN)
    (h : ∀ tk, Q (.bool true) { s with toks := tk }) : wpAny X.C.M A (eval (.Call (.Name "isinstance" p) [.Name "e" p', .Name y p''] [] p3) X.env) Q E s := by
  simp only [isBi, FI.isGlob, Bool.and_eq_true, beq_iff_eq, bne_iff_ne, ne_eq, List.contains_iff_mem] at hb
  obtain ⟨⟨h1, h2⟩, h3⟩ := hb
  obtain ⟨h4, h5⟩ := S.g.bn "isinstance" h3
  refine PyProof.Rows.Call_ (PySem.Calls.Name_function_global S.fn ((S.kind _).trans h1) (PySem.Calls.loadGlobal_builtin (mg := X.C.mg) (mb := X.C.mb) (by rw [S.gl]; exact S.g.g.keeps hk) h4 (by rw [S.bi]; exact S.g.b.keeps hk) ((S.g.bi _ h5).trans boot_isinstance) ?_) (by simpa using h2))
  rw [starEach_plain (xs := [.Name "e" p', .Name y p'']) (fun z q => by
    rcases List.mem_cons.mp q with rfl | q
    · rfl
    · cases List.mem_singleton.mp q; rfl), backTo_plain]
  exact callW (K := X.C.K) (fun h _ => keeper_builtin _ h _) (PySem.Calls.spliced_cons (wpAny_Name (wpAny_loadName_local S.fn ((S.kind _).trans hke) hn he (PySem.Calls.spliced_cons (hy _ _ (PySem.Calls.spliced_nil ⟨S.g.X.keeps hk, isi_exc hkit (S.g.X.keeps hk) hx hc h⟩))))))

theorem refused_ok {f : FD} {a aN cN cM : Addr} {v : V} {n : Nat} {nf nt : Str} {p1 p2 p3 p4 p5 p6 p7 p8 p9 p10 p11 p12 p13 p14 p15 p16 p17 : Pos} {r : List Stmt} (hf : G.fd.lookup a = some f) (hn : f.ps.length = 1)
    (hst : f.st = .Try [.Expr (.Call (.Name nf p1) [.Name nt p2] [] p3) p4] [.ExceptHandler (some (.Name "NoTree" p5)) (some "e") [.Return (some (.BoolOp .And [.Call (.Name "isinstance" p6) [.Name "e" p7, .Name "MillError" p8] [] p9, .Call (.Name "isinstance" p10) [.Name "e" p11, .Name "ValueError" p12] [] p13] p14)) p15] p16] [] [] p17 :: r)
    (hnf : (f.fi.isGlob nf && (G.fn.lookup nf == some aN)) = true) (hnt : f.fi.isVar nt 0 = true) (hg : (f.fi.isGlob "NoTree" && f.fi.isGlob "MillError" && isBi G f.fi "isinstance" && isBi G f.fi "ValueError" && f.fi.names.lookup ("e" : Str) == some .local) = true)
    (hc : ∀ C, G.mo C → RefOk C cN cM) (h : RCall G d cN aN [v]) : WCall G (d + 1) a [v] := by
  refine wcall_of (n := n) hf (by rw [hn]; rfl) ?_
  intro X E W φ s outer e cm S Z F Q k
  rw [Bool.and_eq_true, beq_iff_eq] at hnf
  simp only [Bool.and_eq_true, beq_iff_eq] at hg
  obtain ⟨⟨⟨⟨c1, c2⟩, c3⟩, c4⟩, c5⟩ := hg
  rw [← e] at hnf hnt c1 c2 c3 c4 c5
  obtain ⟨g1, g2⟩ := S.g.fn nf aN hnf.2
  obtain ⟨⟨hmN, nm, q, N, bs, bm, hdct, sn, sub, ab, col, dd, k0, k1, k2, k3, k5, newId, Bn, inN, bmN, mN, Fn, hBn, hC, hN, hni, T⟩, hmM, kit1, kit2⟩ := hc X.C S.g.mo
  have isg : ∀ {x : Str} {p : Pos} {v : Value} {A : Around} {E : Value → Shared → Prop} {Q : Value → Shared → Prop} {s : Shared}, X.fi.isGlob x = true → X.C.mg x = some v → (∀ b o, X.C.h.get? b = some o → s.heap.get? b = some o) → Q v s → wpAny X.C.M A (eval (.Name x p) X.env) Q E s := by
    intro x p v A E Q s hx hv hk h
    simp only [FI.isGlob, Bool.and_eq_true, beq_iff_eq, bne_iff_ne, ne_eq] at hx
    exact PySem.Calls.Name_function_global S.fn ((S.kind x).trans hx.1) (PySem.Calls.loadGlobal_global (mg := X.C.mg) (by rw [S.gl]; exact S.g.g.keeps hk) hv h) (by simpa using hx.2)
  rw [hst]
  refine wpAny_execs_cons (wpAny_Try_except (wpAny_execs_cons (wpAny_Expr_any (PyProof.Rows.Call_ (glob_ok S F hnf.1 g1 ?_)) (by unfold interactive; rw [S.fn]; rfl) rfl)))
  rw [starEach_plain (xs := [.Name nt p2]) (fun z q => by cases List.mem_singleton.mp q; rfl), backTo_plain]
  refine callW (K := X.C.K) (fun h hX => PySem.W.keeps_K g2 h hX) (PySem.Calls.spliced_cons (load_ok S F hnt (o := .val v) rfl fun v' _ _ _ rv => PySem.Calls.spliced_nil ⟨F.In S, wpAny_call ?_⟩))
  refine h X.C X.A W s [v'] _ _ S.g S.hd (by have := S.dp; omega) (by have := S.un; omega) (F.keep S) F.gens F.os F.f.wf (.cons rv.2 rfl) Z.fr (Z.frames S F) fun ee s1 m => ?_
  obtain ⟨⟨a0, fl⟩, up, hgens, hos⟩ := m
  refine wpAny_looks_onW Z.fr Z.me fl fun h4 held4 up4 => wpAny_landsW held4 fun h5 fl5 up5 => ?_
  obtain ⟨o1, es, ep, ho1, hd1, hs1⟩ := F.f.ns
  have hn0 : s.heap.Ns X.env.locals (fun y => nsFind es y) := ⟨o1, es, ep, ho1, hd1, hs1, fun _ => rfl⟩
  have hn5 := ((up.trans up4).trans up5).ns hn0
  have kp5 : ∀ b o, X.C.h.get? b = some o → h5.get? b = some o := fl5.1
  obtain ⟨oe, he, hcls⟩ := fl5.there
  refine wpAny_handleBy_cons (codeAny_handlers_test (isg c1 hmN kp5 (wpAny_excMatches_sub_self (kp5 _ _ hC) he hcls (T.hasType (by decide)) ?_))) (by intro q; cases q)
  refine codeAny_handlers_suite_as (PyProof.Rows.lands_againW fl5 fun h6 fl6 up6 => ?_)
  have hke : X.env.kindOf "e" = some .local := (S.kind _).trans c5
  have hp : (X.env.scope.kind == .class || (X.env.scope.kind == .module && X.env.locals != X.env.globals)) = false := by rw [S.fn]; rfl
  refine wpAny_storeName_local hke (up6.ns hn5) (fun h7 hn7 sb7 => ?_) hp
  obtain ⟨oe6, vs6, he6, hcl6, hda6, _⟩ := fl6.first
  have nl : ∀ b o, X.C.h.get? b = some o → b ≠ X.env.locals := fun b o q z => by rw [z, Z.nw] at q; cases q
  have kp7 : ∀ b o, X.C.h.get? b = some o → h7.get? b = some o := fun b o q => (sb7.2 b (nl b o q)).trans (fl6.1 b o q)
  have hne : ee ≠ X.env.locals := fun z => by
    obtain ⟨o2, es2, ep2, ho2, hd2, _⟩ := up6.ns hn5
    rw [z, ho2] at he6; cases he6; rw [hd2] at hda6; cases hda6
  have he7 : h7.get? ee = some oe6 := (sb7.2 ee hne).trans he6
  refine wpAny_execs_cons (wpAny_Return_some ?_)
  show wpAny _ _ (eval _ X.env >>= fun v => standAt p14 >>= fun _ => holding [v] (truthy v) >>= fun t => _) _ _ _
  refine wpAny_bind (isi_call (ee := ee) (cN := cN) S kp7 hn7 (by simp) c5 c3 (fun E Q q => isg c2 hmM kp7 q) kit1 he7 hcl6 fun tk => wpAny_bind (wpAny_standAt (wpAny_bind (wpAny_holding (wpAny_truthy_bool ?_)))))
  refine isi_call (ee := ee) (cN := cN) S kp7 hn7 (by simp) c5 c3 (fun E Q q => ?_) kit2 he7 hcl6 fun tk2 => ?_
  · simp only [isBi, FI.isGlob, Bool.and_eq_true, beq_iff_eq, bne_iff_ne, ne_eq, List.contains_iff_mem] at c4
    obtain ⟨⟨z1, z2⟩, z3⟩ := c4
    obtain ⟨z4, z5⟩ := S.g.bn "ValueError" z3
    exact PySem.Calls.Name_function_global S.fn ((S.kind _).trans z1) (PySem.Calls.loadGlobal_builtin (mg := X.C.mg) (mb := X.C.mb) (by rw [S.gl]; exact S.g.g.keeps kp7) z4 (by rw [S.bi]; exact S.g.b.keeps kp7) ((S.g.bi _ z5).trans rfl) q) (by simpa using z2)
  · refine wpAny_nameGoes hke hn7 hp fun h9 m9 hn9 sb9 => ?_
    exact k _ ⟨fun b o q => (sb9.2 b (nl b o q)).trans (kp7 b o q), hgens, hos⟩
end
theorem joinW {l : OpenLaw} {q : Program} {loose : List Str} {XP : (Str → Option Value) → Heap → Prop} {K : Params → Frag} {as' : List Addr} {e' : ∀ P, as' = (K P).map (·.1)} {d : DefRec} {kwd : List (Str × Expr)} (G : Gl) (a : Addr) (dep : Nat)
    (hm : l.most = some 63) (hb : l.bound = none) (hname : G.fn.lookup d.name = some a) (hdep : dep ≤ 100)
    (chk : ∀ P, GChk G (K P)) (mo : ∀ (P : Params) (C : Cx), C.K = K P → C.w.params = P → C.K.In C.h → (∀ x, C.mg x = nsFind (topOf (K P)) x) → G.mo C)
    (law : ∀ ns : List Int, ns.length ≤ 63 → WCall G dep a [.lst (ns.map .int)]) :
    WalkO q loose XP (kHook K as' e').says l.row.toRowW d kwd fun f vs => PySem.call f vs := by
  intro w s₀ s₁ mg mb G' Y fa o pm cd doc dV kV ho hd hcd hD hmg hg args vals as hpre hlay hrd hwl hlo
  have KX := kIn_of Y
  obtain ⟨ns, rfl, hlen⟩ := law_args hm hb hpre
  cases hwl with | cons hw1 hw2 =>
  cases hw2
  cases hw1 with | @list b vs xs hob hitems =>
  let C : Cx := ⟨K w.params, s₁.heap, s₁.os, l.row.toRowW.prog, w, mg, mb⟩
  have g : GOk G C := GChk.ok (C := C) (chk w.params) KX G'.T.g G'.T.b G'.T.builtins G'.T.nolimit (mo w.params C rfl rfl KX (top_of (K := K w.params) KX G'.T.g (chk w.params).top))
  have hfa : fa = a := by
    have z : some (Value.ref fa) = some (Value.ref a) := hmg.symm.trans (g.fn _ _ hname).1
    cases z; rfl
  subst hfa
  have hz : (ns.map V.int).length ≤ sizeLine := by rw [List.length_map, sizeLine_eq]; omega
  have rv : VRs (fun x => x = b) s₁.heap [.lst (ns.map .int)] [.ref b] := .cons ⟨b, vs.toArray, 0, rfl, rfl, hob, hz, (List.toList_toArray (as := vs)).symm ▸ reads_ints hitems⟩ rfl
  refine wpAny_call (law ns hlen C callerA _ s₁ [.ref b] _ [] g rfl (by show 1 + 300 + 2 * dep + 9 ≤ 1000; omega) (by show 4 + 20 * dep + 2000 + 90 < 9900; omega) (fun _ _ e => e) hg rfl (fun x q => ⟨_, q ▸ hob⟩) rv rfl trivial fun s' bs => ?_)
  refine GoodW.toG ⟨.inl ⟨.bool true, .bool true, [], rfl, ?_, .bool true, ?_, ?_⟩, bs.1, bs.2.2, bs.2.1⟩
  · intro cls; rfl
  · show (WShape.has [] (.bool true) .bool && WTm.holds [] (.eq .res (.lit (.bool true))) { args := _, res := some (.bool true), after := _ }) = true
    simp [WShape.has, WShape.arms, WTm.holds, WTm.value, same]
  · intro _; exact ⟨List.nodup_nil, fun a ha => by cases ha⟩
end Mine
end

section
open PySem PySem.W
set_option autoImplicit false
set_option linter.unusedVariables false
namespace Mine

noncomputable def intAt (K : Frag) (x : Str) (i : Int) : Bool := match nsFind (topOf K) x with
  | some (.int j _) => j == i
  | _ => false
noncomputable def strAt (K : Frag) (x : Str) (z : List Nat) : Bool := match nsFind (topOf K) x with
  | some (.str y _) => y == ⟨z.toArray⟩
  | _ => false
noncomputable def strsM : List Value → List (List Nat) → Bool
  | [], [] => true
  | .str x _ :: vs, z :: zs => (x == ⟨z.toArray⟩) && (PyData.strOk ⟨z.toArray⟩ && Nat.ble z.length 1000) && strsM vs zs
  | _, _ => false
noncomputable def tupAt (K : Frag) (a : Addr) (zs : List (List Nat)) : Bool := match K.lookup a with
  | some ⟨c, dd, .seq vs n, sl⟩ => c == .type "tuple" && dd.isNone && sl.size == 0 && strsM vs.toList zs && Nat.ble zs.length 1000
  | _ => false
noncomputable def entM : List DictEntry → List (List Nat × Int) → Bool
  | [], [] => true
  | ⟨_, .str x _, .int j _⟩ :: es, kv :: kvs => (x == ⟨kv.1.toArray⟩) && (j == kv.2) && entM es kvs
  | _, _ => false
noncomputable def dicAt (K : Frag) (a : Addr) (kvs : List (List Nat × Int)) : Bool := match K.lookup a with
  | some ⟨c, dd, .dict es ep, sl⟩ => c == .type "dict" && dd.isNone && sl.size == 0 && entM es.toList kvs
  | _ => false
noncomputable def hashesAt (K : Frag) (a : Addr) : List Int := match K.lookup a with
  | some ⟨_, _, .dict es _, _⟩ => es.toList.map (·.hash)
  | _ => []
noncomputable def nsOk (K : Frag) (a : Addr) : Bool := match K.lookup a with
  | some o => (match o.data with
    | .dict es _ => (es.toList.all fun e => match e.key with
      | .str _ _ => true
      | _ => false) && nsFind es "__init__" == none
    | _ => false)
  | none => false
noncomputable def clsAt (K : Frag) (c : Addr) (bm : List Value) (newId : String) : Bool := match K.lookup c with
  | some ⟨cl, dd, .cls cd, sl⟩ => cl == .type "type" && cd.mro == .ref c :: bm && !cd.hasDel && nsOk K cd.ns && sl.size == 6 && sl[4]? == some (some (.builtin newId))
  | _ => false

section
variable {K : Frag} {C : Cx} (X : K.In C.h) (hm : ∀ x, C.mg x = nsFind (topOf K) x)
include hm
theorem gval_int {x : Str} {i : Int} (h : intAt K x i = true) : GVal C x (.int i) := by
  unfold intAt at h
  split at h
  · rename_i j t e; rw [beq_iff_eq] at h; subst h; exact ⟨_, (hm x).trans e, t, rfl⟩
  · cases h
theorem gval_str {x : Str} {z : List Nat} (h : strAt K x z = true) (hk : (PyData.strOk ⟨z.toArray⟩ && Nat.ble z.length 1000) = true) : GVal C x (.str z) := by
  rw [Bool.and_eq_true] at hk
  have hl := Nat.le_of_ble_eq_true hk.2
  unfold strAt at h
  split at h
  · rename_i j t e; rw [beq_iff_eq] at h; subst h; exact ⟨_, (hm x).trans e, t, rfl, hk.1, by rw [sizeLine_eq]; omega⟩
  · cases h
omit hm
theorem strsM_ok {W : WS} {h : Heap} : ∀ {vs : List Value} {zs : List (List Nat)}, strsM vs zs = true → VRs W h (zs.map .str) vs
  | [], [], _ => rfl
  | [], _ :: _, e => nomatch e
  | v :: vs, [], e => by cases v <;> cases e
  | v :: vs, z :: zs, e => by
    unfold strsM at e
    split at e
    · rename_i h1 h2; cases h1
    · rename_i x t vs' z' zs' h1 h2
      cases h1; cases h2
      simp only [Bool.and_eq_true, beq_iff_eq] at e
      obtain ⟨⟨rfl, e2, e3⟩, e4⟩ := e
      have hl := Nat.le_of_ble_eq_true e3
      exact .cons ⟨t, rfl, e2, by rw [sizeLine_eq]; omega⟩ (strsM_ok e4)
    · cases e
include X hm
theorem gval_tup {x : Str} {a : Addr} {zs : List (List Nat)} (h1 : nsFind (topOf K) x = some (.ref a)) (h : tupAt K a zs = true) : GVal C x (.tup (zs.map .str)) := by
  unfold tupAt at h
  split at h
  · rename_i c dd vs n sl e
    simp only [Bool.and_eq_true, beq_iff_eq, Option.isNone_iff_eq_none] at h
    obtain ⟨⟨⟨⟨rfl, rfl⟩, h3⟩, h4⟩, h5⟩ := h
    have hsl : sl = #[] := Array.eq_empty_of_size_eq_zero h3
    subst hsl
    have hl := Nat.le_of_ble_eq_true h5
    exact ⟨_, (hm x).trans h1, a, vs, n, rfl, ⟨_, X _ _ e⟩, X _ _ e, by rw [List.length_map, sizeLine_eq]; omega, strsM_ok h4⟩
  · cases h
omit X hm
theorem entM_ok (prog : Program) (w : World) : ∀ {es : List DictEntry} {kvs : List (List Nat × Int)}, entM es kvs = true → es.map (·.hash) = kvs.map (fun kv => PyData.keyHash w.params ⟨kv.1.toArray⟩) →
    ∃ kws : List (Str × Value), Pairs (strKind prog w) es kws ∧ kws.map (·.1) = kvs.map (fun kv => (⟨kv.1.toArray⟩ : Str)) ∧ (∀ e ∈ es, ∃ k, (strKind prog w).is k e.key = true ∧ e.hash = (strKind prog w).hash k) ∧ ∀ z i, kvs.lookup z = some i → ∃ t, valueAt kws ⟨z.toArray⟩ = some (.int i t)
  | [], [], _, _ => ⟨[], .nil, rfl, fun _ q => (nomatch q), fun _ _ q => (nomatch q)⟩
  | [], _ :: _, e, _ => nomatch e
  | ⟨_, k, v⟩ :: es, [], e, _ => by cases k <;> cases v <;> cases e
  | e0 :: es, kv :: kvs, e, hh => by
    unfold entM at e
    split at e
    · rename_i h1 h2; cases h1
    · rename_i hs x t j t' es' kv' kvs' h1 h2
      cases h1; cases h2
      simp only [Bool.and_eq_true, beq_iff_eq] at e
      obtain ⟨⟨rfl, rfl⟩, e3⟩ := e
      rw [List.map_cons, List.map_cons, List.cons.injEq] at hh
      obtain ⟨kws, p1, p2, p3, p4⟩ := entM_ok prog w e3 hh.2
      have his : (strKind prog w).is ⟨kv.1.toArray⟩ (.str ⟨kv.1.toArray⟩ t) = true := by simp [strKind, Value.isStrOf]
      refine ⟨(⟨kv.1.toArray⟩, .int kv.2 t') :: kws, .cons his rfl p1, by rw [List.map_cons, List.map_cons, p2], fun e' q => ?_, fun z i q => ?_⟩
      · rcases List.mem_cons.mp q with rfl | q
        · exact ⟨_, his, hh.1⟩
        · exact p3 e' q
      · rw [List.lookup_cons] at q
        by_cases hz : z = kv.1
        · subst hz
          rw [beq_self_eq_true] at q
          cases q
          exact ⟨t', by simp [valueAt]⟩
        · have hz' : (z == kv.1) = false := by simpa using hz
          rw [hz'] at q
          obtain ⟨t2, q2⟩ := p4 z i q
          refine ⟨t2, ?_⟩
          rw [← q2]
          unfold valueAt
          have : ¬ (⟨kv.1.toArray⟩ : Str) = ⟨z.toArray⟩ := fun q => hz (by simpa using q.symm)
          rw [List.find?_cons_of_neg (by simpa using this)]
    · cases e
include X hm
theorem gdic_ok {x : Str} {a : Addr} {kvs : List (List Nat × Int)} (h1 : nsFind (topOf K) x = some (.ref a)) (h : dicAt K a kvs = true) (hh : hashesAt K a = kvs.map (fun kv => PyData.keyHash C.w.params ⟨kv.1.toArray⟩)) (hn : (kvs.map (fun kv => (⟨kv.1.toArray⟩ : Str))).Nodup) : GDic C x kvs := by
  unfold dicAt at h
  split at h
  · rename_i c dd es ep sl e
    simp only [Bool.and_eq_true, beq_iff_eq, Option.isNone_iff_eq_none] at h
    obtain ⟨⟨⟨rfl, rfl⟩, h3⟩, h4⟩ := h
    unfold hashesAt at hh
    rw [e] at hh
    obtain ⟨kws, p1, p2, p3, p4⟩ := entM_ok C.prog C.w h4 hh
    refine ⟨a, kws, (hm x).trans h1, ⟨_, es, ep, X _ _ e, ⟨rfl, rfl, Array.eq_empty_of_size_eq_zero h3⟩, rfl, fun e' q => p3 e' (by simpa using q), p1, by rw [p2]; exact hn⟩, p4⟩
  · cases h
omit hm
theorem ns_ok {a : Addr} (h : nsOk K a = true) : ∃ m, C.h.Ns a m ∧ m "__init__" = none := by
  unfold nsOk at h
  split at h
  · rename_i o e
    split at h
    · rename_i es ep hd
      rw [Bool.and_eq_true, beq_iff_eq] at h
      refine ⟨fun x => nsFind es x, ⟨o, es, ep, X _ _ e, hd, fun e' q => ?_, fun _ => rfl⟩, h.2⟩
      have := List.all_eq_true.mp h.1 e' (by simpa using q)
      split at this
      · rename_i n t q; exact ⟨n, t, q⟩
      · cases this
    · cases h
  · cases h
include hm
theorem ex_ok {x : Str} {c c2 : Addr} (h1 : nsFind (topOf K) x = some (.ref c)) (h : clsAt K c (.ref c2 :: mroV) "ValueError.__new__" = true) (h2 : clsAt K c2 mroV "ValueError.__new__" = true) : ExOk C x c := by
  refine ⟨(hm x).trans h1, ?_⟩
  unfold clsAt at h
  split at h
  · rename_i cl dd cd sl e
    simp only [Bool.and_eq_true, beq_iff_eq, Bool.not_eq_true'] at h
    obtain ⟨⟨⟨⟨⟨rfl, hmro⟩, hdel⟩, hns⟩, hsz⟩, hnew⟩ := h
    unfold clsAt at h2
    split at h2
    · rename_i cl2 dd2 cd2 sl2 e2
      simp only [Bool.and_eq_true, beq_iff_eq, Bool.not_eq_true'] at h2
      obtain ⟨⟨⟨⟨⟨rfl, hmro2⟩, hdel2⟩, hns2⟩, hsz2⟩, hnew2⟩ := h2
      obtain ⟨m, n1, n2⟩ := ns_ok X hns
      obtain ⟨m2, n3, n4⟩ := ns_ok X hns2
      obtain ⟨l⟩ := sl
      match l, hsz, hnew with
      | [k0, k1, k2, k3, k4, k5], _, hnew =>
        have hk4 : k4 = some (.builtin "ValueError.__new__") := by simpa using hnew
        subst hk4
        obtain ⟨nm, bs, mro, N, q, hdct, sn, sub, ab, col, hdel'⟩ := cd
        dsimp only at hmro hdel n1 hns
        subst hmro hdel
        exact ⟨nm, q, N, bs, _, hdct, sn, sub, ab, col, dd, k0, k1, k2, k3, k5, "ValueError.__new__", "ValueError", _, _, m, PySem.F.excBase_ValueError, by decide, X _ _ e, n1, n2, .own (X _ _ e2) n3 n4 .base⟩
    · cases h2
  · cases h
end
end Mine
end

section
open PySem
set_option autoImplicit false
set_option maxRecDepth 100000
namespace Mine.L02
noncomputable def z_num : List Nat := [110, 117, 109]
theorem z_num_e : ("num" : Str) = ⟨z_num.toArray⟩ := by kernel_rfl
theorem z_num_k : (PyData.strOk ⟨z_num.toArray⟩ && Nat.ble z_num.length 1000) = true := by kernel_rfl
noncomputable def z_name : List Nat := [110, 97, 109, 101]
theorem z_name_e : ("name" : Str) = ⟨z_name.toArray⟩ := by kernel_rfl
theorem z_name_k : (PyData.strOk ⟨z_name.toArray⟩ && Nat.ble z_name.length 1000) = true := by kernel_rfl
noncomputable def z_fun : List Nat := [102, 117, 110]
theorem z_fun_e : ("fun" : Str) = ⟨z_fun.toArray⟩ := by kernel_rfl
theorem z_fun_k : (PyData.strOk ⟨z_fun.toArray⟩ && Nat.ble z_fun.length 1000) = true := by kernel_rfl
noncomputable def z_let : List Nat := [108, 101, 116]
theorem z_let_e : ("let" : Str) = ⟨z_let.toArray⟩ := by kernel_rfl
theorem z_let_k : (PyData.strOk ⟨z_let.toArray⟩ && Nat.ble z_let.length 1000) = true := by kernel_rfl
noncomputable def z_call : List Nat := [99, 97, 108, 108]
theorem z_call_e : ("call" : Str) = ⟨z_call.toArray⟩ := by kernel_rfl
theorem z_call_k : (PyData.strOk ⟨z_call.toArray⟩ && Nat.ble z_call.length 1000) = true := by kernel_rfl
noncomputable def z_plus : List Nat := [112, 108, 117, 115]
theorem z_plus_e : ("plus" : Str) = ⟨z_plus.toArray⟩ := by kernel_rfl
theorem z_plus_k : (PyData.strOk ⟨z_plus.toArray⟩ && Nat.ble z_plus.length 1000) = true := by kernel_rfl
noncomputable def z_less : List Nat := [108, 101, 115, 115]
theorem z_less_e : ("less" : Str) = ⟨z_less.toArray⟩ := by kernel_rfl
theorem z_less_k : (PyData.strOk ⟨z_less.toArray⟩ && Nat.ble z_less.length 1000) = true := by kernel_rfl
noncomputable def z_if : List Nat := [105, 102]
theorem z_if_e : ("if" : Str) = ⟨z_if.toArray⟩ := by kernel_rfl
theorem z_if_k : (PyData.strOk ⟨z_if.toArray⟩ && Nat.ble z_if.length 1000) = true := by kernel_rfl
noncomputable def z_1 : List Nat := [49]
theorem z_1_e : ("1" : Str) = ⟨z_1.toArray⟩ := by kernel_rfl
theorem z_1_k : (PyData.strOk ⟨z_1.toArray⟩ && Nat.ble z_1.length 1000) = true := by kernel_rfl
noncomputable def z_ : List Nat := []
theorem z__e : ("" : Str) = ⟨z_.toArray⟩ := by kernel_rfl
theorem z__k : (PyData.strOk ⟨z_.toArray⟩ && Nat.ble z_.length 1000) = true := by kernel_rfl
noncomputable def z_abcdefghi : List Nat := [97, 98, 99, 100, 101, 102, 103, 104, 105]
theorem z_abcdefghi_e : ("abcdefghi" : Str) = ⟨z_abcdefghi.toArray⟩ := by kernel_rfl
theorem z_abcdefghi_k : (PyData.strOk ⟨z_abcdefghi.toArray⟩ && Nat.ble z_abcdefghi.length 1000) = true := by kernel_rfl
noncomputable def z_aB : List Nat := [97, 66]
theorem z_aB_e : ("aB" : Str) = ⟨z_aB.toArray⟩ := by kernel_rfl
theorem z_aB_k : (PyData.strOk ⟨z_aB.toArray⟩ && Nat.ble z_aB.length 1000) = true := by kernel_rfl
noncomputable def z_au32ub : List Nat := [97, 32, 98]
theorem z_au32ub_e : ("a b" : Str) = ⟨z_au32ub.toArray⟩ := by kernel_rfl
theorem z_au32ub_k : (PyData.strOk ⟨z_au32ub.toArray⟩ && Nat.ble z_au32ub.length 1000) = true := by kernel_rfl
noncomputable def z_x1 : List Nat := [120, 49]
theorem z_x1_e : ("x1" : Str) = ⟨z_x1.toArray⟩ := by kernel_rfl
theorem z_x1_k : (PyData.strOk ⟨z_x1.toArray⟩ && Nat.ble z_x1.length 1000) = true := by kernel_rfl
noncomputable def z_x : List Nat := [120]
theorem z_x_e : ("x" : Str) = ⟨z_x.toArray⟩ := by kernel_rfl
theorem z_x_k : (PyData.strOk ⟨z_x.toArray⟩ && Nat.ble z_x.length 1000) = true := by kernel_rfl
noncomputable def z_sum : List Nat := [115, 117, 109]
theorem z_sum_e : ("sum" : Str) = ⟨z_sum.toArray⟩ := by kernel_rfl
theorem z_sum_k : (PyData.strOk ⟨z_sum.toArray⟩ && Nat.ble z_sum.length 1000) = true := by kernel_rfl
noncomputable def z_y : List Nat := [121]
theorem z_y_e : ("y" : Str) = ⟨z_y.toArray⟩ := by kernel_rfl
theorem z_y_k : (PyData.strOk ⟨z_y.toArray⟩ && Nat.ble z_y.length 1000) = true := by kernel_rfl
noncomputable def z_u95uu45uu39u0123456789ABCDEFGHIJKLMNOPQRSTUVWXYZu33uu63uu46uu44uu58uu59uu34uu96uu126uu124uu43uu42uu47uu92uu61uu60uu62uu40uu41uu91uu93uu123uu125uu35uu36uu38uu64uu94uu32uu9uu10u : List Nat := [95, 45, 39, 48, 49, 50, 51, 52, 53, 54, 55, 56, 57, 65, 66, 67, 68, 69, 70, 71, 72, 73, 74, 75, 76, 77, 78, 79, 80, 81, 82, 83, 84, 85, 86, 87, 88, 89, 90, 33, 63, 46, 44, 58, 59, 34, 96, 126, 124, 43, 42, 47, 92, 61, 60, 62, 40, 41, 91, 93, 123, 125, 35, 36, 38, 64, 94, 32, 9, 10]
theorem z_u95uu45uu39u0123456789ABCDEFGHIJKLMNOPQRSTUVWXYZu33uu63uu46uu44uu58uu59uu34uu96uu126uu124uu43uu42uu47uu92uu61uu60uu62uu40uu41uu91uu93uu123uu125uu35uu36uu38uu64uu94uu32uu9uu10u_e : ("_-'0123456789ABCDEFGHIJKLMNOPQRSTUVWXYZ!?.,:;\"`~|+*/\\=<>()[]{}#$&@^ \t\n" : Str) = ⟨z_u95uu45uu39u0123456789ABCDEFGHIJKLMNOPQRSTUVWXYZu33uu63uu46uu44uu58uu59uu34uu96uu126uu124uu43uu42uu47uu92uu61uu60uu62uu40uu41uu91uu93uu123uu125uu35uu36uu38uu64uu94uu32uu9uu10u.toArray⟩ := by kernel_rfl
theorem z_u95uu45uu39u0123456789ABCDEFGHIJKLMNOPQRSTUVWXYZu33uu63uu46uu44uu58uu59uu34uu96uu126uu124uu43uu42uu47uu92uu61uu60uu62uu40uu41uu91uu93uu123uu125uu35uu36uu38uu64uu94uu32uu9uu10u_k : (PyData.strOk ⟨z_u95uu45uu39u0123456789ABCDEFGHIJKLMNOPQRSTUVWXYZu33uu63uu46uu44uu58uu59uu34uu96uu126uu124uu43uu42uu47uu92uu61uu60uu62uu40uu41uu91uu93uu123uu125uu35uu36uu38uu64uu94uu32uu9uu10u.toArray⟩ && Nat.ble z_u95uu45uu39u0123456789ABCDEFGHIJKLMNOPQRSTUVWXYZu33uu63uu46uu44uu58uu59uu34uu96uu126uu124uu43uu42uu47uu92uu61uu60uu62uu40uu41uu91uu93uu123uu125uu35uu36uu38uu64uu94uu32uu9uu10u.length 1000) = true := by kernel_rfl
noncomputable def z_ab : List Nat := [97, 98]
theorem z_ab_e : ("ab" : Str) = ⟨z_ab.toArray⟩ := by kernel_rfl
theorem z_ab_k : (PyData.strOk ⟨z_ab.toArray⟩ && Nat.ble z_ab.length 1000) = true := by kernel_rfl
noncomputable def z_b : List Nat := [98]
theorem z_b_e : ("b" : Str) = ⟨z_b.toArray⟩ := by kernel_rfl
theorem z_b_k : (PyData.strOk ⟨z_b.toArray⟩ && Nat.ble z_b.length 1000) = true := by kernel_rfl
noncomputable def z_abcdefghijklmnopqrstuvwxyz : List Nat := [97, 98, 99, 100, 101, 102, 103, 104, 105, 106, 107, 108, 109, 110, 111, 112, 113, 114, 115, 116, 117, 118, 119, 120, 121, 122]
theorem z_abcdefghijklmnopqrstuvwxyz_e : ("abcdefghijklmnopqrstuvwxyz" : Str) = ⟨z_abcdefghijklmnopqrstuvwxyz.toArray⟩ := by kernel_rfl
theorem z_abcdefghijklmnopqrstuvwxyz_k : (PyData.strOk ⟨z_abcdefghijklmnopqrstuvwxyz.toArray⟩ && Nat.ble z_abcdefghijklmnopqrstuvwxyz.length 1000) = true := by kernel_rfl
noncomputable def z_q : List Nat := [113]
theorem z_q_e : ("q" : Str) = ⟨z_q.toArray⟩ := by kernel_rfl
theorem z_q_k : (PyData.strOk ⟨z_q.toArray⟩ && Nat.ble z_q.length 1000) = true := by kernel_rfl
noncomputable def z_abcdefgh : List Nat := [97, 98, 99, 100, 101, 102, 103, 104]
theorem z_abcdefgh_e : ("abcdefgh" : Str) = ⟨z_abcdefgh.toArray⟩ := by kernel_rfl
theorem z_abcdefgh_k : (PyData.strOk ⟨z_abcdefgh.toArray⟩ && Nat.ble z_abcdefgh.length 1000) = true := by kernel_rfl
noncomputable def z_z : List Nat := [122]
theorem z_z_e : ("z" : Str) = ⟨z_z.toArray⟩ := by kernel_rfl
theorem z_z_k : (PyData.strOk ⟨z_z.toArray⟩ && Nat.ble z_z.length 1000) = true := by kernel_rfl
noncomputable def z_fu : List Nat := [102, 117]
theorem z_fu_e : ("fu" : Str) = ⟨z_fu.toArray⟩ := by kernel_rfl
theorem z_fu_k : (PyData.strOk ⟨z_fu.toArray⟩ && Nat.ble z_fu.length 1000) = true := by kernel_rfl
noncomputable def z_f : List Nat := [102]
theorem z_f_e : ("f" : Str) = ⟨z_f.toArray⟩ := by kernel_rfl
theorem z_f_k : (PyData.strOk ⟨z_f.toArray⟩ && Nat.ble z_f.length 1000) = true := by kernel_rfl
noncomputable def z_v : List Nat := [118]
theorem z_v_e : ("v" : Str) = ⟨z_v.toArray⟩ := by kernel_rfl
theorem z_v_k : (PyData.strOk ⟨z_v.toArray⟩ && Nat.ble z_v.length 1000) = true := by kernel_rfl
noncomputable def fi_is_name : FI := ⟨namesAt PySem.Challenge.pw_uf010023_02 9, [("word", 0), ("sign", 1)]⟩
noncomputable def fd_is_name : FD := ⟨["word"], fi_is_name, bodyAt PySem.Challenge.pw_uf010023_02 9⟩
noncomputable def fi_is_whole : FI := ⟨namesAt PySem.Challenge.pw_uf010023_02 10, [("number", 0)]⟩
noncomputable def fd_is_whole : FD := ⟨["number"], fi_is_whole, bodyAt PySem.Challenge.pw_uf010023_02 10⟩
noncomputable def fi_is_node : FI := ⟨namesAt PySem.Challenge.pw_uf010023_02 11, [("node", 0)]⟩
noncomputable def fd_is_node : FD := ⟨["node"], fi_is_node, bodyAt PySem.Challenge.pw_uf010023_02 11⟩
noncomputable def fi_parts : FI := ⟨namesAt PySem.Challenge.pw_uf010023_02 12, [("tree", 0)]⟩
noncomputable def fd_parts : FD := ⟨["tree"], fi_parts, bodyAt PySem.Challenge.pw_uf010023_02 12⟩
noncomputable def fi_need_tree : FI := ⟨namesAt PySem.Challenge.pw_uf010023_02 13, [("tree", 0), ("waiting", 1), ("many", 2), ("node", 3)]⟩
noncomputable def fd_need_tree : FD := ⟨["tree"], fi_need_tree, bodyAt PySem.Challenge.pw_uf010023_02 13⟩
noncomputable def fi__law_cell_at : FI := ⟨namesAt PySem.Challenge.pw_uf010023_02 15, [("_law_script", 0), ("_law_k", 1)]⟩
noncomputable def fd__law_cell_at : FD := ⟨["_law_script", "_law_k"], fi__law_cell_at, bodyAt PySem.Challenge.pw_uf010023_02 15⟩
noncomputable def fi__law_odd : FI := ⟨namesAt PySem.Challenge.pw_uf010023_02 16, [("_law_cell", 0), ("_law_n", 1), ("_law_word", 2), ("_law_some", 3), ("_law_signs", 4), ("_law_sign", 5)]⟩
noncomputable def fd__law_odd : FD := ⟨["_law_cell"], fi__law_odd, bodyAt PySem.Challenge.pw_uf010023_02 16⟩
noncomputable def fi__law_fine : FI := ⟨namesAt PySem.Challenge.pw_uf010023_02 17, [("_law_cell", 0), ("_law_letters", 1), ("_law_n", 2)]⟩
noncomputable def fd__law_fine : FD := ⟨["_law_cell"], fi__law_fine, bodyAt PySem.Challenge.pw_uf010023_02 17⟩
noncomputable def fi__law_whole : FI := ⟨namesAt PySem.Challenge.pw_uf010023_02 18, [("_law_things", 0), ("_law_one", 1), ("_law_other", 2), ("_law_third", 3)]⟩
noncomputable def fd__law_whole : FD := ⟨["_law_things"], fi__law_whole, bodyAt PySem.Challenge.pw_uf010023_02 18⟩
noncomputable def fi__law_refused : FI := ⟨namesAt PySem.Challenge.pw_uf010023_02 19, [("_law_tree", 0), ("e", 1)]⟩
noncomputable def fd__law_refused : FD := ⟨["_law_tree"], fi__law_refused, bodyAt PySem.Challenge.pw_uf010023_02 19⟩
noncomputable def fi__law_deep : FI := ⟨namesAt PySem.Challenge.pw_uf010023_02 20, [("_law_many", 0), ("_law_tree", 1), ("_law_k", 2)]⟩
noncomputable def fd__law_deep : FD := ⟨["_law_many"], fi__law_deep, bodyAt PySem.Challenge.pw_uf010023_02 20⟩
noncomputable def fi__law_two : FI := ⟨namesAt PySem.Challenge.pw_uf010023_02 21, [("_law_kind", 0), ("_law_one", 1), ("_law_other", 2)]⟩
noncomputable def fd__law_two : FD := ⟨["_law_kind", "_law_one", "_law_other"], fi__law_two, bodyAt PySem.Challenge.pw_uf010023_02 21⟩
noncomputable def fi__law_wide : FI := ⟨namesAt PySem.Challenge.pw_uf010023_02 22, [("_law_many", 0), ("_law_row", 1), ("_law_joined", 2)]⟩
noncomputable def fd__law_wide : FD := ⟨["_law_many"], fi__law_wide, bodyAt PySem.Challenge.pw_uf010023_02 22⟩
noncomputable def fi__law_same : FI := ⟨namesAt PySem.Challenge.pw_uf010023_02 23, [("_law_one", 0), ("_law_other", 1), ("_law_todo", 2), ("_law_pair", 3), ("_law_k", 4)]⟩
noncomputable def fd__law_same : FD := ⟨["_law_one", "_law_other"], fi__law_same, bodyAt PySem.Challenge.pw_uf010023_02 23⟩
noncomputable def fi_law : FI := ⟨namesAt PySem.Challenge.pw_uf010023_02 24, [("_law_script", 0), ("_law_way", 1), ("_law_many", 2), ("_law_tree", 3), ("_law_things", 4), ("_law_found", 5), ("_law_odd_here", 6)]⟩
noncomputable def fd_law : FD := ⟨["_law_script"], fi_law, bodyAt PySem.Challenge.pw_uf010023_02 24⟩
noncomputable def words : List (List Nat) := [z_num, z_name, z_fun, z_call, z_plus, z_less, z_if, z_let]
noncomputable def wordsV : List V := [.str z_num, .str z_name, .str z_fun, .str z_call, .str z_plus, .str z_less, .str z_if, .str z_let]
noncomputable def letters : List Nat := z_abcdefghijklmnopqrstuvwxyz
noncomputable def lens : List (List Nat × Int) := [(z_num, 2), (z_name, 2), (z_fun, 3), (z_call, 3), (z_plus, 3), (z_less, 3), (z_if, 4), (z_let, 4)]
noncomputable def great : Int := 1000000000000000000000000000000000000000000000000000000000000
noncomputable def cN : Addr := 37
noncomputable def cM : Addr := 24
structure More (C : Cx) : Prop where
  words : GVal C "WORDS" (.tup wordsV)
  letters : GVal C "LETTERS" (.str letters)
  lens : GDic C "LENGTHS" lens
  most : GVal C "MOST_NODES" (.int 400)
  great : GVal C "GREAT" (.int great)
  ref : RefOk C cN cM

noncomputable def G : Gl := ⟨[("is_name", 48), ("is_whole", 55), ("is_node", 62), ("parts", 69), ("need_tree", 76), ("_law_cell_at", 83), ("_law_odd", 90), ("_law_fine", 97), ("_law_whole", 104), ("_law_refused", 111), ("_law_deep", 118), ("_law_two", 125), ("_law_wide", 130), ("_law_same", 137), ("law", 142)], [(48, fd_is_name), (55, fd_is_whole), (62, fd_is_node), (69, fd_parts), (76, fd_need_tree), (83, fd__law_cell_at), (90, fd__law_odd), (97, fd__law_fine), (104, fd__law_whole), (111, fd__law_refused), (118, fd__law_deep), (125, fd__law_two), (130, fd__law_wide), (137, fd__law_same), (142, fd_law)], ["len", "isinstance", "list", "tuple", "range", "reversed", "str", "int", "bool", "ValueError"], [.tuple, .str, .int, .bool, .list], More⟩
noncomputable def l_is_name_15 (d : Nat) : SL G d fi_is_name :=
(lCons (sIte true (eNotInS (eVar "sign" 1 ⟨16,11,16,15⟩ (by kernel_rfl)) (eGlobS "LETTERS" letters ⟨16,23,16,30⟩ (by kernel_rfl) fun _ m => m.letters) ⟨16,11,16,30⟩)
(lCons (sRet (eBool false 0 ⟨17,19,17,24⟩) ⟨17,12,17,24⟩) lNil)
lNil ⟨16,8,17,24⟩) lNil)
noncomputable def b_is_name (d : Nat) : SL G d fi_is_name :=
(lCons (sIte false (eBop (bCons false (eNot (eIsi (eVar "word" 0 ⟨13,22,13,26⟩ (by kernel_rfl)) .str ⟨13,11,13,21⟩ ⟨13,28,13,31⟩ ⟨13,11,13,32⟩ (by kernel_rfl)) ⟨13,7,13,32⟩) (bCons true (eNot (eLeLe (eInt 1 0 ⟨13,40,13,41⟩) (eLen (eVar "word" 0 ⟨13,49,13,53⟩ (by kernel_rfl)) ⟨13,45,13,48⟩ ⟨13,45,13,54⟩ (by kernel_rfl)) (eInt 8 0 ⟨13,58,13,59⟩) ⟨13,40,13,59⟩ rfl) ⟨13,36,13,59⟩) (bLast .Or (eInG false (eVar "word" 0 ⟨13,63,13,67⟩ (by kernel_rfl)) "WORDS" wordsV words ⟨13,71,13,76⟩ ⟨13,63,13,76⟩ (by kernel_rfl) rfl fun _ m => m.words)))) ⟨13,7,13,76⟩)
(lCons (sRet (eBool false 0 ⟨14,15,14,20⟩) ⟨14,8,14,20⟩) lNil)
lNil ⟨13,4,14,20⟩) (lCons (sFor "sign" (iStr (eVar "word" 0 ⟨15,16,15,20⟩ (by kernel_rfl))) (l_is_name_15 d) ⟨15,8,15,12⟩ ⟨15,4,17,24⟩) (lCons (sRet (eBool true 0 ⟨18,11,18,15⟩) ⟨18,4,18,15⟩) lNil)))
theorem b_is_name_x (d : Nat) : (b_is_name d).xs = fd_is_name.st := by kernel_rfl
noncomputable def b_is_whole (d : Nat) : SL G d fi_is_whole :=
(lCons (sRet (eBop (bCons false (eIsi (eVar "number" 0 ⟨20,22,20,28⟩ (by kernel_rfl)) .int ⟨20,11,20,21⟩ ⟨20,30,20,33⟩ ⟨20,11,20,34⟩ (by kernel_rfl)) (bLast .And (eNot (eIsi (eVar "number" 0 ⟨20,55,20,61⟩ (by kernel_rfl)) .bool ⟨20,44,20,54⟩ ⟨20,63,20,67⟩ ⟨20,44,20,68⟩ (by kernel_rfl)) ⟨20,40,20,68⟩))) ⟨20,11,20,69⟩) ⟨20,4,20,69⟩) lNil)
theorem b_is_whole_x (d : Nat) : (b_is_whole d).xs = fd_is_whole.st := by kernel_rfl
noncomputable def b_is_node (d : Nat) : SL G d fi_is_node :=
(lCons (sIte false (eBop (bCons false (eNot (eIsi (eVar "node" 0 ⟨22,22,22,26⟩ (by kernel_rfl)) .tuple ⟨22,11,22,21⟩ ⟨22,28,22,33⟩ ⟨22,11,22,34⟩ (by kernel_rfl)) ⟨22,7,22,34⟩) (bCons true (eEq (eLen (eVar "node" 0 ⟨22,42,22,46⟩ (by kernel_rfl)) ⟨22,38,22,41⟩ ⟨22,38,22,47⟩ (by kernel_rfl)) (eInt 0 0 ⟨22,51,22,52⟩) ⟨22,38,22,52⟩) (bLast .Or (eNot (eIsi (eIdxV false "node" 0 ⟨22,72,22,76⟩ (eInt 0 0 ⟨22,77,22,78⟩) ⟨22,72,22,79⟩ (by kernel_rfl)) .str ⟨22,61,22,71⟩ ⟨22,81,22,84⟩ ⟨22,61,22,85⟩ (by kernel_rfl)) ⟨22,57,22,85⟩)))) ⟨22,7,22,86⟩)
(lCons (sRet (eBool false 0 ⟨23,15,23,20⟩) ⟨23,8,23,20⟩) lNil)
lNil ⟨22,4,23,20⟩) (lCons (sIte true (eBop (bCons false (eInG true (eIdxV false "node" 0 ⟨24,7,24,11⟩ (eInt 0 0 ⟨24,12,24,13⟩) ⟨24,7,24,14⟩ (by kernel_rfl)) "WORDS" wordsV words ⟨24,22,24,27⟩ ⟨24,7,24,27⟩ (by kernel_rfl) rfl fun _ m => m.words) (bLast .Or (eNe (eLen (eVar "node" 0 ⟨24,35,24,39⟩ (by kernel_rfl)) ⟨24,31,24,34⟩ ⟨24,31,24,40⟩ (by kernel_rfl)) (eDicG "LENGTHS" lens (eIdxV false "node" 0 ⟨24,52,24,56⟩ (eInt 0 0 ⟨24,57,24,58⟩) ⟨24,52,24,59⟩ (by kernel_rfl)) ⟨24,44,24,51⟩ ⟨24,44,24,60⟩ (by kernel_rfl) fun _ m => m.lens) ⟨24,31,24,60⟩))) ⟨24,7,24,60⟩)
(lCons (sRet (eBool false 0 ⟨25,15,25,20⟩) ⟨25,8,25,20⟩) lNil)
lNil ⟨24,4,25,20⟩) (lCons (sIte false (eEq (eIdxV false "node" 0 ⟨26,7,26,11⟩ (eInt 0 0 ⟨26,12,26,13⟩) ⟨26,7,26,14⟩ (by kernel_rfl)) (eStr "num" z_num 0 ⟨26,18,26,23⟩ z_num_e z_num_k) ⟨26,7,26,23⟩)
(lCons (sRet (eBop (bCons false (eCall "is_whole" 55 (rCons (eIdxV false "node" 0 ⟨27,24,27,28⟩ (eInt 1 0 ⟨27,29,27,30⟩) ⟨27,24,27,31⟩ (by kernel_rfl)) rNil) ⟨27,15,27,23⟩ ⟨27,15,27,32⟩ (by kernel_rfl)) (bLast .And (eLtLt (eNeg (eGlobI "GREAT" great ⟨27,38,27,43⟩ (by kernel_rfl) fun _ m => m.great) ⟨27,37,27,43⟩) (eIdxV false "node" 0 ⟨27,46,27,50⟩ (eInt 1 0 ⟨27,51,27,52⟩) ⟨27,46,27,53⟩ (by kernel_rfl)) (eGlobI "GREAT" great ⟨27,56,27,61⟩ (by kernel_rfl) fun _ m => m.great) ⟨27,37,27,61⟩ rfl))) ⟨27,15,27,61⟩) ⟨27,8,27,61⟩) lNil)
lNil ⟨26,4,27,61⟩) (lCons (sIte false (eBop (bCons false (eEq (eIdxV false "node" 0 ⟨28,7,28,11⟩ (eInt 0 0 ⟨28,12,28,13⟩) ⟨28,7,28,14⟩ (by kernel_rfl)) (eStr "name" z_name 0 ⟨28,18,28,24⟩ z_name_e z_name_k) ⟨28,7,28,24⟩) (bCons false (eEq (eIdxV false "node" 0 ⟨28,28,28,32⟩ (eInt 0 0 ⟨28,33,28,34⟩) ⟨28,28,28,35⟩ (by kernel_rfl)) (eStr "fun" z_fun 0 ⟨28,39,28,44⟩ z_fun_e z_fun_k) ⟨28,28,28,44⟩) (bLast .Or (eEq (eIdxV false "node" 0 ⟨28,48,28,52⟩ (eInt 0 0 ⟨28,53,28,54⟩) ⟨28,48,28,55⟩ (by kernel_rfl)) (eStr "let" z_let 0 ⟨28,59,28,64⟩ z_let_e z_let_k) ⟨28,48,28,64⟩)))) ⟨28,7,28,64⟩)
(lCons (sRet (eCall "is_name" 48 (rCons (eIdxV false "node" 0 ⟨29,23,29,27⟩ (eInt 1 0 ⟨29,28,29,29⟩) ⟨29,23,29,30⟩ (by kernel_rfl)) rNil) ⟨29,15,29,22⟩ ⟨29,15,29,31⟩ (by kernel_rfl)) ⟨29,8,29,31⟩) lNil)
lNil ⟨28,4,29,31⟩) (lCons (sRet (eBool true 0 ⟨30,11,30,15⟩) ⟨30,4,30,15⟩) lNil)))))
theorem b_is_node_x (d : Nat) : (b_is_node d).xs = fd_is_node.st := by kernel_rfl
noncomputable def b_parts (d : Nat) : SL G d fi_parts :=
(lCons (sIte false (eBop (bCons false (eEq (eIdxV false "tree" 0 ⟨32,7,32,11⟩ (eInt 0 0 ⟨32,12,32,13⟩) ⟨32,7,32,14⟩ (by kernel_rfl)) (eStr "num" z_num 0 ⟨32,18,32,23⟩ z_num_e z_num_k) ⟨32,7,32,23⟩) (bLast .Or (eEq (eIdxV false "tree" 0 ⟨32,27,32,31⟩ (eInt 0 0 ⟨32,32,32,33⟩) ⟨32,27,32,34⟩ (by kernel_rfl)) (eStr "name" z_name 0 ⟨32,38,32,44⟩ z_name_e z_name_k) ⟨32,27,32,44⟩))) ⟨32,7,32,44⟩)
(lCons (sRet (eLst rNil ⟨33,15,33,17⟩ rfl) ⟨33,8,33,17⟩) lNil)
lNil ⟨32,4,33,17⟩) (lCons (sIte false (eBop (bCons false (eEq (eIdxV false "tree" 0 ⟨34,7,34,11⟩ (eInt 0 0 ⟨34,12,34,13⟩) ⟨34,7,34,14⟩ (by kernel_rfl)) (eStr "fun" z_fun 0 ⟨34,18,34,23⟩ z_fun_e z_fun_k) ⟨34,7,34,23⟩) (bLast .Or (eEq (eIdxV false "tree" 0 ⟨34,27,34,31⟩ (eInt 0 0 ⟨34,32,34,33⟩) ⟨34,27,34,34⟩ (by kernel_rfl)) (eStr "let" z_let 0 ⟨34,38,34,43⟩ z_let_e z_let_k) ⟨34,27,34,43⟩))) ⟨34,7,34,43⟩)
(lCons (sRet (eListT (eSlc (eVar "tree" 0 ⟨35,20,35,24⟩ (by kernel_rfl)) (dSome (eInt 2 0 ⟨35,25,35,26⟩)) dNone ⟨35,25,35,27⟩ ⟨35,20,35,28⟩) ⟨35,15,35,19⟩ ⟨35,15,35,29⟩ (by kernel_rfl)) ⟨35,8,35,29⟩) lNil)
lNil ⟨34,4,35,29⟩) (lCons (sRet (eListT (eSlc (eVar "tree" 0 ⟨36,16,36,20⟩ (by kernel_rfl)) (dSome (eInt 1 0 ⟨36,21,36,22⟩)) dNone ⟨36,21,36,23⟩ ⟨36,16,36,24⟩) ⟨36,11,36,15⟩ ⟨36,11,36,25⟩ (by kernel_rfl)) ⟨36,4,36,25⟩) lNil)))
theorem b_parts_x (d : Nat) : (b_parts d).xs = fd_parts.st := by kernel_rfl
noncomputable def c_need_tree_40 (d : Nat) : T G d fi_need_tree := (eNil true (eVar "waiting" 1 ⟨40,10,40,17⟩ (by kernel_rfl)) ⟨40,21,40,23⟩ ⟨40,10,40,23⟩)
noncomputable def l_need_tree_40 (d : Nat) : SL G d fi_need_tree :=
(lCons (sAsg "node" 3 (ePop "waiting" 1 ⟨41,15,41,22⟩ ⟨41,15,41,26⟩ ⟨41,15,41,28⟩ (by kernel_rfl)) ⟨41,8,41,12⟩ ⟨41,8,41,28⟩ (by kernel_rfl)) (lCons (sAsg "many" 2 (eAdd (eVar "many" 2 ⟨42,15,42,19⟩ (by kernel_rfl)) (eInt 1 0 ⟨42,22,42,23⟩) ⟨42,15,42,23⟩) ⟨42,8,42,12⟩ ⟨42,8,42,23⟩ (by kernel_rfl)) (lCons (sIte false (eBop (bCons true (eGt (eVar "many" 2 ⟨43,11,43,15⟩ (by kernel_rfl)) (eGlobI "MOST_NODES" 400 ⟨43,18,43,28⟩ (by kernel_rfl) fun _ m => m.most) ⟨43,11,43,28⟩) (bLast .Or (eNot (eCall "is_node" 62 (rCons (eVar "node" 3 ⟨43,44,43,48⟩ (by kernel_rfl)) rNil) ⟨43,36,43,43⟩ ⟨43,36,43,49⟩ (by kernel_rfl)) ⟨43,32,43,49⟩))) ⟨43,11,43,49⟩)
(lStuck [(.Raise (some (.Call (.Name "NoTree" ⟨44,18,44,24⟩) [.Constant (.str "no tree") 0 ⟨44,25,44,34⟩] [] ⟨44,18,44,35⟩)) none ⟨44,12,44,35⟩)])
lNil ⟨43,8,44,35⟩) (lCons (sExt "waiting" 1 (eCall "parts" 69 (rCons (eVar "node" 3 ⟨45,29,45,33⟩ (by kernel_rfl)) rNil) ⟨45,23,45,28⟩ ⟨45,23,45,34⟩ (by kernel_rfl)) ⟨45,8,45,15⟩ ⟨45,8,45,22⟩ ⟨45,8,45,35⟩ ⟨45,8,45,35⟩ (by kernel_rfl)) lNil))))
noncomputable def x_need_tree_40 (d : Nat) : SE G d fi_need_tree cN :=
(xCons (sAsg "node" 3 (ePop "waiting" 1 ⟨41,15,41,22⟩ ⟨41,15,41,26⟩ ⟨41,15,41,28⟩ (by kernel_rfl)) ⟨41,8,41,12⟩ ⟨41,8,41,28⟩ (by kernel_rfl))
(xCons (sAsg "many" 2 (eAdd (eVar "many" 2 ⟨42,15,42,19⟩ (by kernel_rfl)) (eInt 1 0 ⟨42,22,42,23⟩) ⟨42,15,42,23⟩) ⟨42,8,42,12⟩ ⟨42,8,42,23⟩ (by kernel_rfl))
(xIf false (eBop (bCons true (eGt (eVar "many" 2 ⟨43,11,43,15⟩ (by kernel_rfl)) (eGlobI "MOST_NODES" 400 ⟨43,18,43,28⟩ (by kernel_rfl) fun _ m => m.most) ⟨43,11,43,28⟩) (bLast .Or (eNot (eCall "is_node" 62 (rCons (eVar "node" 3 ⟨43,44,43,48⟩ (by kernel_rfl)) rNil) ⟨43,36,43,43⟩ ⟨43,36,43,49⟩ (by kernel_rfl)) ⟨43,32,43,49⟩))) ⟨43,11,43,49⟩) (xRaise "NoTree" "no tree" 0 ⟨44,18,44,24⟩ ⟨44,25,44,34⟩ ⟨44,18,44,35⟩ ⟨44,12,44,35⟩ [] (by kernel_rfl) fun _ m => m.ref.ex) [] ((lCons (sExt "waiting" 1 (eCall "parts" 69 (rCons (eVar "node" 3 ⟨45,29,45,33⟩ (by kernel_rfl)) rNil) ⟨45,23,45,28⟩ ⟨45,23,45,34⟩ (by kernel_rfl)) ⟨45,8,45,15⟩ ⟨45,8,45,22⟩ ⟨45,8,45,35⟩ ⟨45,8,45,35⟩ (by kernel_rfl)) lNil) : SL G d fi_need_tree).xs ⟨43,8,44,35⟩)))
theorem x_need_tree_40_x (d : Nat) : (x_need_tree_40 d).xs = (l_need_tree_40 d).xs := rfl
noncomputable def h_need_tree (d : Nat) : SH G d fi_need_tree cN :=
(hCons (sAsg "waiting" 1 (eLst (rCons (eVar "tree" 0 ⟨38,15,38,19⟩ (by kernel_rfl)) rNil) ⟨38,14,38,20⟩ rfl) ⟨38,4,38,11⟩ ⟨38,4,38,20⟩ (by kernel_rfl)) (hCons (sAsg "many" 2 (eInt 0 0 ⟨39,11,39,12⟩) ⟨39,4,39,8⟩ ⟨39,4,39,12⟩ (by kernel_rfl)) (hWhil (c_need_tree_40 d) (l_need_tree_40 d).xs ⟨40,4,45,35⟩ ((lCons (sRetV "tree" 0 ⟨46,11,46,15⟩ ⟨46,4,46,15⟩ (by kernel_rfl)) lNil) : SL G d fi_need_tree).xs)))
theorem h_need_tree_x (d : Nat) : (h_need_tree d).xs = fd_need_tree.st := by kernel_rfl
noncomputable def b_need_tree (d : Nat) : SL G d fi_need_tree :=
(lCons (sAsg "waiting" 1 (eLst (rCons (eVar "tree" 0 ⟨38,15,38,19⟩ (by kernel_rfl)) rNil) ⟨38,14,38,20⟩ rfl) ⟨38,4,38,11⟩ ⟨38,4,38,20⟩ (by kernel_rfl)) (lCons (sAsg "many" 2 (eInt 0 0 ⟨39,11,39,12⟩) ⟨39,4,39,8⟩ ⟨39,4,39,12⟩ (by kernel_rfl)) (lCons (sWhil (c_need_tree_40 d) (l_need_tree_40 d) ⟨40,4,45,35⟩) (lCons (sRetV "tree" 0 ⟨46,11,46,15⟩ ⟨46,4,46,15⟩ (by kernel_rfl)) lNil))))
theorem b_need_tree_x (d : Nat) : (b_need_tree d).xs = fd_need_tree.st := by kernel_rfl
noncomputable def b__law_cell_at (d : Nat) : SL G d fi__law_cell_at :=
(lCons (sIte true (eLt (eVar "_law_k" 1 ⟨49,7,49,13⟩ (by kernel_rfl)) (eLen (eVar "_law_script" 0 ⟨49,20,49,31⟩ (by kernel_rfl)) ⟨49,16,49,19⟩ ⟨49,16,49,32⟩ (by kernel_rfl)) ⟨49,7,49,32⟩)
(lCons (sRet (eIdxV true "_law_script" 0 ⟨50,15,50,26⟩ (eVar "_law_k" 1 ⟨50,27,50,33⟩ (by kernel_rfl)) ⟨50,15,50,34⟩ (by kernel_rfl)) ⟨50,8,50,34⟩) lNil)
lNil ⟨49,4,50,34⟩) (lCons (sRet (eInt 0 0 ⟨51,11,51,12⟩) ⟨51,4,51,12⟩) lNil))
theorem b__law_cell_at_x (d : Nat) : (b__law_cell_at d).xs = fd__law_cell_at.st := by kernel_rfl
noncomputable def b__law_odd (d : Nat) : SL G d fi__law_odd :=
(lCons (sAsg "_law_n" 1 (eTup (rCons (eStr "num" z_num 0 ⟨53,14,53,19⟩ z_num_e z_num_k) (rCons (eInt 1 0 ⟨53,21,53,22⟩) rNil)) 0 ⟨53,13,53,23⟩ rfl) ⟨53,4,53,10⟩ ⟨53,4,53,23⟩ (by kernel_rfl)) (lCons (sAsg "_law_word" 2 (eIdx true (eLst (rCons (eStr "num" z_num 0 ⟨54,17,54,22⟩ z_num_e z_num_k) (rCons (eStr "name" z_name 0 ⟨54,24,54,30⟩ z_name_e z_name_k) (rCons (eStr "fun" z_fun 0 ⟨54,32,54,37⟩ z_fun_e z_fun_k) (rCons (eStr "call" z_call 0 ⟨54,39,54,45⟩ z_call_e z_call_k) (rCons (eStr "plus" z_plus 0 ⟨54,47,54,53⟩ z_plus_e z_plus_k) (rCons (eStr "less" z_less 0 ⟨54,55,54,61⟩ z_less_e z_less_k) (rCons (eStr "if" z_if 0 ⟨54,63,54,67⟩ z_if_e z_if_k) (rCons (eStr "let" z_let 0 ⟨54,69,54,74⟩ z_let_e z_let_k) rNil)))))))) ⟨54,16,54,75⟩ rfl) (eMod (eDiv (eVar "_law_cell" 0 ⟨54,76,54,85⟩ (by kernel_rfl)) (eInt 47 0 ⟨54,89,54,91⟩) ⟨54,76,54,91⟩) (eInt 8 0 ⟨54,94,54,95⟩) ⟨54,76,54,95⟩) ⟨54,16,54,96⟩) ⟨54,4,54,13⟩ ⟨54,4,54,96⟩ (by kernel_rfl)) (lCons (sAsg "_law_some" 3 (eLst (rCons (eTup (rCons (eStr "num" z_num 0 ⟨55,18,55,23⟩ z_num_e z_num_k) (rCons (eBool true 0 ⟨55,25,55,29⟩) rNil)) 0 ⟨55,17,55,30⟩ rfl) (rCons (eTup (rCons (eStr "num" z_num 0 ⟨55,33,55,38⟩ z_num_e z_num_k) (rCons (eBool false 0 ⟨55,40,55,45⟩) rNil)) 0 ⟨55,32,55,46⟩ rfl) (rCons (eTup (rCons (eStr "num" z_num 0 ⟨55,49,55,54⟩ z_num_e z_num_k) (rCons (ePow (eInt 10 0 ⟨55,56,55,58⟩) (eInt 60 0 ⟨55,62,55,64⟩) ⟨55,56,55,64⟩) rNil)) 0 ⟨55,48,55,65⟩ rfl) (rCons (eTup (rCons (eStr "num" z_num 0 ⟨55,68,55,73⟩ z_num_e z_num_k) (rCons (eNeg (ePow (eInt 10 0 ⟨55,76,55,78⟩) (eInt 60 0 ⟨55,82,55,84⟩) ⟨55,76,55,84⟩) ⟨55,75,55,84⟩) rNil)) 0 ⟨55,67,55,85⟩ rfl) (rCons (eTup (rCons (eStr "num" z_num 0 ⟨55,88,55,93⟩ z_num_e z_num_k) (rCons (eStr "1" z_1 0 ⟨55,95,55,98⟩ z_1_e z_1_k) rNil)) 0 ⟨55,87,55,99⟩ rfl) (rCons (eTup (rCons (eStr "num" z_num 0 ⟨55,102,55,107⟩ z_num_e z_num_k) rNil) 0 ⟨55,101,55,109⟩ rfl) rNil)))))) ⟨55,16,55,110⟩ rfl) ⟨55,4,55,13⟩ ⟨55,4,55,110⟩ (by kernel_rfl)) (lCons (sAsg "_law_some" 3 (eAddL (eVar "_law_some" 3 ⟨56,16,56,25⟩ (by kernel_rfl)) (eLst (rCons (eTup (rCons (eStr "num" z_num 0 ⟨56,30,56,35⟩ z_num_e z_num_k) (rCons (eInt 1 0 ⟨56,37,56,38⟩) (rCons (eInt 2 0 ⟨56,40,56,41⟩) rNil))) 0 ⟨56,29,56,42⟩ rfl) (rCons (eTup (rCons (eStr "num" z_num 0 ⟨56,45,56,50⟩ z_num_e z_num_k) (rCons (eNone 0 ⟨56,52,56,56⟩) rNil)) 0 ⟨56,44,56,57⟩ rfl) (rCons (eTup (rCons (eStr "name" z_name 0 ⟨56,60,56,66⟩ z_name_e z_name_k) (rCons (eVar "_law_word" 2 ⟨56,68,56,77⟩ (by kernel_rfl)) rNil)) 0 ⟨56,59,56,78⟩ rfl) (rCons (eTup (rCons (eStr "name" z_name 0 ⟨56,81,56,87⟩ z_name_e z_name_k) (rCons (eVar "_law_word" 2 ⟨56,89,56,98⟩ (by kernel_rfl)) rNil)) 0 ⟨56,80,56,99⟩ rfl) (rCons (eTup (rCons (eStr "name" z_name 0 ⟨56,102,56,108⟩ z_name_e z_name_k) (rCons (eVar "_law_word" 2 ⟨56,110,56,119⟩ (by kernel_rfl)) rNil)) 0 ⟨56,101,56,120⟩ rfl) (rCons (eTup (rCons (eStr "name" z_name 0 ⟨56,123,56,129⟩ z_name_e z_name_k) (rCons (eVar "_law_word" 2 ⟨56,131,56,140⟩ (by kernel_rfl)) rNil)) 0 ⟨56,122,56,141⟩ rfl) rNil)))))) ⟨56,28,56,142⟩ rfl) ⟨56,16,56,142⟩) ⟨56,4,56,13⟩ ⟨56,4,56,142⟩ (by kernel_rfl)) (lCons (sAsg "_law_some" 3 (eAddL (eVar "_law_some" 3 ⟨57,16,57,25⟩ (by kernel_rfl)) (eLst (rCons (eTup (rCons (eStr "name" z_name 0 ⟨57,30,57,36⟩ z_name_e z_name_k) (rCons (eStr "" z_ 0 ⟨57,38,57,40⟩ z__e z__k) rNil)) 0 ⟨57,29,57,41⟩ rfl) (rCons (eTup (rCons (eStr "name" z_name 0 ⟨57,44,57,50⟩ z_name_e z_name_k) (rCons (eStr "abcdefghi" z_abcdefghi 0 ⟨57,52,57,63⟩ z_abcdefghi_e z_abcdefghi_k) rNil)) 0 ⟨57,43,57,64⟩ rfl) (rCons (eTup (rCons (eStr "name" z_name 0 ⟨57,67,57,73⟩ z_name_e z_name_k) (rCons (eStr "aB" z_aB 0 ⟨57,75,57,79⟩ z_aB_e z_aB_k) rNil)) 0 ⟨57,66,57,80⟩ rfl) (rCons (eTup (rCons (eStr "name" z_name 0 ⟨57,83,57,89⟩ z_name_e z_name_k) (rCons (eInt 5 0 ⟨57,91,57,92⟩) rNil)) 0 ⟨57,82,57,93⟩ rfl) rNil)))) ⟨57,28,57,94⟩ rfl) ⟨57,16,57,94⟩) ⟨57,4,57,13⟩ ⟨57,4,57,94⟩ (by kernel_rfl)) (lCons (sAsg "_law_some" 3 (eAddL (eVar "_law_some" 3 ⟨58,16,58,25⟩ (by kernel_rfl)) (eLst (rCons (eTup (rCons (eStr "name" z_name 0 ⟨58,30,58,36⟩ z_name_e z_name_k) (rCons (eStr "a b" z_au32ub 0 ⟨58,38,58,43⟩ z_au32ub_e z_au32ub_k) rNil)) 0 ⟨58,29,58,44⟩ rfl) (rCons (eTup (rCons (eStr "name" z_name 0 ⟨58,47,58,53⟩ z_name_e z_name_k) (rCons (eStr "x1" z_x1 0 ⟨58,55,58,59⟩ z_x1_e z_x1_k) rNil)) 0 ⟨58,46,58,60⟩ rfl) (rCons (eTup (rCons (eStr "fun" z_fun 0 ⟨58,63,58,68⟩ z_fun_e z_fun_k) (rCons (eStr "x" z_x 0 ⟨58,70,58,73⟩ z_x_e z_x_k) rNil)) 0 ⟨58,62,58,74⟩ rfl) (rCons (eTup (rCons (eStr "fun" z_fun 0 ⟨58,77,58,82⟩ z_fun_e z_fun_k) (rCons (eVar "_law_word" 2 ⟨58,84,58,93⟩ (by kernel_rfl)) (rCons (eVar "_law_n" 1 ⟨58,95,58,101⟩ (by kernel_rfl)) rNil))) 0 ⟨58,76,58,102⟩ rfl) (rCons (eTup (rCons (eStr "fun" z_fun 0 ⟨58,105,58,110⟩ z_fun_e z_fun_k) (rCons (eVar "_law_n" 1 ⟨58,112,58,118⟩ (by kernel_rfl)) (rCons (eVar "_law_n" 1 ⟨58,120,58,126⟩ (by kernel_rfl)) rNil))) 0 ⟨58,104,58,127⟩ rfl) (rCons (eTup (rCons (eStr "call" z_call 0 ⟨58,130,58,136⟩ z_call_e z_call_k) (rCons (eVar "_law_n" 1 ⟨58,138,58,144⟩ (by kernel_rfl)) rNil)) 0 ⟨58,129,58,145⟩ rfl) rNil)))))) ⟨58,28,58,146⟩ rfl) ⟨58,16,58,146⟩) ⟨58,4,58,13⟩ ⟨58,4,58,146⟩ (by kernel_rfl)) (lCons (sAsg "_law_some" 3 (eAddL (eVar "_law_some" 3 ⟨59,16,59,25⟩ (by kernel_rfl)) (eLst (rCons (eTup (rCons (eStr "plus" z_plus 0 ⟨59,30,59,36⟩ z_plus_e z_plus_k) (rCons (eVar "_law_n" 1 ⟨59,38,59,44⟩ (by kernel_rfl)) (rCons (eVar "_law_n" 1 ⟨59,46,59,52⟩ (by kernel_rfl)) (rCons (eVar "_law_n" 1 ⟨59,54,59,60⟩ (by kernel_rfl)) rNil)))) 0 ⟨59,29,59,61⟩ rfl) (rCons (eTup (rCons (eStr "if" z_if 0 ⟨59,64,59,68⟩ z_if_e z_if_k) (rCons (eVar "_law_n" 1 ⟨59,70,59,76⟩ (by kernel_rfl)) (rCons (eVar "_law_n" 1 ⟨59,78,59,84⟩ (by kernel_rfl)) rNil))) 0 ⟨59,63,59,85⟩ rfl) (rCons (eTup (rCons (eStr "let" z_let 0 ⟨59,88,59,93⟩ z_let_e z_let_k) (rCons (eStr "x" z_x 0 ⟨59,95,59,98⟩ z_x_e z_x_k) (rCons (eVar "_law_n" 1 ⟨59,100,59,106⟩ (by kernel_rfl)) rNil))) 0 ⟨59,87,59,107⟩ rfl) (rCons (eTup (rCons (eStr "let" z_let 0 ⟨59,110,59,115⟩ z_let_e z_let_k) (rCons (eVar "_law_word" 2 ⟨59,117,59,126⟩ (by kernel_rfl)) (rCons (eVar "_law_n" 1 ⟨59,128,59,134⟩ (by kernel_rfl)) (rCons (eVar "_law_n" 1 ⟨59,136,59,142⟩ (by kernel_rfl)) rNil)))) 0 ⟨59,109,59,143⟩ rfl) (rCons (eLst (rCons (eStr "num" z_num 0 ⟨59,146,59,151⟩ z_num_e z_num_k) (rCons (eInt 1 0 ⟨59,153,59,154⟩) rNil)) ⟨59,145,59,155⟩ rfl) (rCons (eStr "num" z_num 0 ⟨59,157,59,162⟩ z_num_e z_num_k) (rCons (eInt 5 0 ⟨59,164,59,165⟩) (rCons (eNone 0 ⟨59,167,59,171⟩) rNil)))))))) ⟨59,28,59,172⟩ rfl) ⟨59,16,59,172⟩) ⟨59,4,59,13⟩ ⟨59,4,59,172⟩ (by kernel_rfl)) (lCons (sAsg "_law_some" 3 (eAddL (eVar "_law_some" 3 ⟨60,16,60,25⟩ (by kernel_rfl)) (eLst (rCons (eTup rNil 0 ⟨60,29,60,31⟩ rfl) (rCons (eTup (rCons (eStr "sum" z_sum 0 ⟨60,34,60,39⟩ z_sum_e z_sum_k) (rCons (eVar "_law_n" 1 ⟨60,41,60,47⟩ (by kernel_rfl)) (rCons (eVar "_law_n" 1 ⟨60,49,60,55⟩ (by kernel_rfl)) rNil))) 0 ⟨60,33,60,56⟩ rfl) (rCons (eTup (rCons (eVar "_law_n" 1 ⟨60,59,60,65⟩ (by kernel_rfl)) (rCons (eVar "_law_n" 1 ⟨60,67,60,73⟩ (by kernel_rfl)) rNil)) 0 ⟨60,58,60,74⟩ rfl) (rCons (eTup (rCons (eStr "fun" z_fun 0 ⟨60,77,60,82⟩ z_fun_e z_fun_k) (rCons (eStr "x" z_x 0 ⟨60,84,60,87⟩ z_x_e z_x_k) (rCons (eVar "_law_n" 1 ⟨60,89,60,95⟩ (by kernel_rfl)) (rCons (eVar "_law_n" 1 ⟨60,97,60,103⟩ (by kernel_rfl)) rNil)))) 0 ⟨60,76,60,104⟩ rfl) (rCons (eTup (rCons (eStr "let" z_let 0 ⟨60,107,60,112⟩ z_let_e z_let_k) (rCons (eStr "x" z_x 0 ⟨60,114,60,117⟩ z_x_e z_x_k) (rCons (eVar "_law_n" 1 ⟨60,119,60,125⟩ (by kernel_rfl)) (rCons (eVar "_law_n" 1 ⟨60,127,60,133⟩ (by kernel_rfl)) (rCons (eVar "_law_n" 1 ⟨60,135,60,141⟩ (by kernel_rfl)) rNil))))) 0 ⟨60,106,60,142⟩ rfl) (rCons (eTup (rCons (eStr "if" z_if 0 ⟨60,145,60,149⟩ z_if_e z_if_k) (rCons (eVar "_law_n" 1 ⟨60,151,60,157⟩ (by kernel_rfl)) (rCons (eVar "_law_n" 1 ⟨60,159,60,165⟩ (by kernel_rfl)) (rCons (eVar "_law_n" 1 ⟨60,167,60,173⟩ (by kernel_rfl)) (rCons (eVar "_law_n" 1 ⟨60,175,60,181⟩ (by kernel_rfl)) rNil))))) 0 ⟨60,144,60,182⟩ rfl) rNil)))))) ⟨60,28,60,183⟩ rfl) ⟨60,16,60,183⟩) ⟨60,4,60,13⟩ ⟨60,4,60,183⟩ (by kernel_rfl)) (lCons (sAsg "_law_some" 3 (eAddL (eVar "_law_some" 3 ⟨61,16,61,25⟩ (by kernel_rfl)) (eLst (rCons (eTup (rCons (eStr "call" z_call 0 ⟨61,30,61,36⟩ z_call_e z_call_k) (rCons (eVar "_law_n" 1 ⟨61,38,61,44⟩ (by kernel_rfl)) (rCons (eVar "_law_n" 1 ⟨61,46,61,52⟩ (by kernel_rfl)) (rCons (eVar "_law_n" 1 ⟨61,54,61,60⟩ (by kernel_rfl)) rNil)))) 0 ⟨61,29,61,61⟩ rfl) (rCons (eTup (rCons (eStr "less" z_less 0 ⟨61,64,61,70⟩ z_less_e z_less_k) (rCons (eVar "_law_n" 1 ⟨61,72,61,78⟩ (by kernel_rfl)) (rCons (eVar "_law_n" 1 ⟨61,80,61,86⟩ (by kernel_rfl)) (rCons (eVar "_law_n" 1 ⟨61,88,61,94⟩ (by kernel_rfl)) rNil)))) 0 ⟨61,63,61,95⟩ rfl) (rCons (eTup (rCons (eStr "name" z_name 0 ⟨61,98,61,104⟩ z_name_e z_name_k) (rCons (eStr "x" z_x 0 ⟨61,106,61,109⟩ z_x_e z_x_k) (rCons (eStr "y" z_y 0 ⟨61,111,61,114⟩ z_y_e z_y_k) rNil))) 0 ⟨61,97,61,115⟩ rfl) rNil))) ⟨61,28,61,116⟩ rfl) ⟨61,16,61,116⟩) ⟨61,4,61,13⟩ ⟨61,4,61,116⟩ (by kernel_rfl)) (lCons (sAsg "_law_signs" 4 (eStr "_-'0123456789ABCDEFGHIJKLMNOPQRSTUVWXYZ!?.,:;\"`~|+*/\\=<>()[]{}#$&@^ \t\n" z_u95uu45uu39u0123456789ABCDEFGHIJKLMNOPQRSTUVWXYZu33uu63uu46uu44uu58uu59uu34uu96uu126uu124uu43uu42uu47uu92uu61uu60uu62uu40uu41uu91uu93uu123uu125uu35uu36uu38uu64uu94uu32uu9uu10u 0 ⟨62,17,62,93⟩ z_u95uu45uu39u0123456789ABCDEFGHIJKLMNOPQRSTUVWXYZu33uu63uu46uu44uu58uu59uu34uu96uu126uu124uu43uu42uu47uu92uu61uu60uu62uu40uu41uu91uu93uu123uu125uu35uu36uu38uu64uu94uu32uu9uu10u_e z_u95uu45uu39u0123456789ABCDEFGHIJKLMNOPQRSTUVWXYZu33uu63uu46uu44uu58uu59uu34uu96uu126uu124uu43uu42uu47uu92uu61uu60uu62uu40uu41uu91uu93uu123uu125uu35uu36uu38uu64uu94uu32uu9uu10u_k) ⟨62,4,62,14⟩ ⟨62,4,62,93⟩ (by kernel_rfl)) (lCons (sAsg "_law_sign" 5 (eIdxV true "_law_signs" 4 ⟨63,16,63,26⟩ (eMod (eDiv (eVar "_law_cell" 0 ⟨63,27,63,36⟩ (by kernel_rfl)) (eInt 47 0 ⟨63,40,63,42⟩) ⟨63,27,63,42⟩) (eLen (eVar "_law_signs" 4 ⟨63,49,63,59⟩ (by kernel_rfl)) ⟨63,45,63,48⟩ ⟨63,45,63,60⟩ (by kernel_rfl)) ⟨63,27,63,60⟩) ⟨63,16,63,61⟩ (by kernel_rfl)) ⟨63,4,63,13⟩ ⟨63,4,63,61⟩ (by kernel_rfl)) (lCons (sAsg "_law_some" 3 (eAddL (eVar "_law_some" 3 ⟨64,16,64,25⟩ (by kernel_rfl)) (eLst (rCons (eTup (rCons (eStr "name" z_name 0 ⟨64,30,64,36⟩ z_name_e z_name_k) (rCons (eCat (eStr "ab" z_ab 0 ⟨64,38,64,42⟩ z_ab_e z_ab_k) (eVar "_law_sign" 5 ⟨64,45,64,54⟩ (by kernel_rfl)) ⟨64,38,64,54⟩) rNil)) 0 ⟨64,29,64,55⟩ rfl) (rCons (eTup (rCons (eStr "fun" z_fun 0 ⟨64,58,64,63⟩ z_fun_e z_fun_k) (rCons (eCat (eVar "_law_sign" 5 ⟨64,65,64,74⟩ (by kernel_rfl)) (eStr "b" z_b 0 ⟨64,77,64,80⟩ z_b_e z_b_k) ⟨64,65,64,80⟩) (rCons (eVar "_law_n" 1 ⟨64,82,64,88⟩ (by kernel_rfl)) rNil))) 0 ⟨64,57,64,89⟩ rfl) (rCons (eTup (rCons (eStr "fun" z_fun 0 ⟨64,92,64,97⟩ z_fun_e z_fun_k) (rCons (eStr "abcdefghi" z_abcdefghi 0 ⟨64,99,64,110⟩ z_abcdefghi_e z_abcdefghi_k) (rCons (eVar "_law_n" 1 ⟨64,112,64,118⟩ (by kernel_rfl)) rNil))) 0 ⟨64,91,64,119⟩ rfl) (rCons (eTup (rCons (eStr "fun" z_fun 0 ⟨64,122,64,127⟩ z_fun_e z_fun_k) (rCons (eStr "x1" z_x1 0 ⟨64,129,64,133⟩ z_x1_e z_x1_k) (rCons (eVar "_law_n" 1 ⟨64,135,64,141⟩ (by kernel_rfl)) rNil))) 0 ⟨64,121,64,142⟩ rfl) rNil)))) ⟨64,28,64,143⟩ rfl) ⟨64,16,64,143⟩) ⟨64,4,64,13⟩ ⟨64,4,64,143⟩ (by kernel_rfl)) (lCons (sAsg "_law_some" 3 (eAddL (eVar "_law_some" 3 ⟨65,16,65,25⟩ (by kernel_rfl)) (eLst (rCons (eTup (rCons (eStr "let" z_let 0 ⟨65,30,65,35⟩ z_let_e z_let_k) (rCons (eStr "abcdefghi" z_abcdefghi 0 ⟨65,37,65,48⟩ z_abcdefghi_e z_abcdefghi_k) (rCons (eVar "_law_n" 1 ⟨65,50,65,56⟩ (by kernel_rfl)) (rCons (eVar "_law_n" 1 ⟨65,58,65,64⟩ (by kernel_rfl)) rNil)))) 0 ⟨65,29,65,65⟩ rfl) (rCons (eTup (rCons (eStr "let" z_let 0 ⟨65,68,65,73⟩ z_let_e z_let_k) (rCons (eStr "x1" z_x1 0 ⟨65,75,65,79⟩ z_x1_e z_x1_k) (rCons (eVar "_law_n" 1 ⟨65,81,65,87⟩ (by kernel_rfl)) (rCons (eVar "_law_n" 1 ⟨65,89,65,95⟩ (by kernel_rfl)) rNil)))) 0 ⟨65,67,65,96⟩ rfl) (rCons (eTup (rCons (eStr "fun" z_fun 0 ⟨65,99,65,104⟩ z_fun_e z_fun_k) (rCons (eStr "" z_ 0 ⟨65,106,65,108⟩ z__e z__k) (rCons (eVar "_law_n" 1 ⟨65,110,65,116⟩ (by kernel_rfl)) rNil))) 0 ⟨65,98,65,117⟩ rfl) (rCons (eTup (rCons (eStr "let" z_let 0 ⟨65,120,65,125⟩ z_let_e z_let_k) (rCons (eStr "" z_ 0 ⟨65,127,65,129⟩ z__e z__k) (rCons (eVar "_law_n" 1 ⟨65,131,65,137⟩ (by kernel_rfl)) (rCons (eVar "_law_n" 1 ⟨65,139,65,145⟩ (by kernel_rfl)) rNil)))) 0 ⟨65,119,65,146⟩ rfl) rNil)))) ⟨65,28,65,147⟩ rfl) ⟨65,16,65,147⟩) ⟨65,4,65,13⟩ ⟨65,4,65,147⟩ (by kernel_rfl)) (lCons (sRet (eIdxV true "_law_some" 3 ⟨66,11,66,20⟩ (eMod (eVar "_law_cell" 0 ⟨66,21,66,30⟩ (by kernel_rfl)) (eInt 47 0 ⟨66,33,66,35⟩) ⟨66,21,66,35⟩) ⟨66,11,66,36⟩ (by kernel_rfl)) ⟨66,4,66,36⟩) lNil))))))))))))))
theorem b__law_odd_x (d : Nat) : (b__law_odd d).xs = fd__law_odd.st := by kernel_rfl
noncomputable def b__law_fine (d : Nat) : SL G d fi__law_fine :=
(lCons (sAsg "_law_letters" 1 (eStr "abcdefghijklmnopqrstuvwxyz" z_abcdefghijklmnopqrstuvwxyz 0 ⟨68,19,68,47⟩ z_abcdefghijklmnopqrstuvwxyz_e z_abcdefghijklmnopqrstuvwxyz_k) ⟨68,4,68,16⟩ ⟨68,4,68,47⟩ (by kernel_rfl)) (lCons (sAsg "_law_n" 2 (eTup (rCons (eStr "num" z_num 0 ⟨69,14,69,19⟩ z_num_e z_num_k) (rCons (eAdd (eSub (eMod (eVar "_law_cell" 0 ⟨69,21,69,30⟩ (by kernel_rfl)) (eSub (eMul (eInt 2 0 ⟨69,34,69,35⟩) (ePow (eInt 10 0 ⟨69,38,69,40⟩) (eInt 60 0 ⟨69,44,69,46⟩) ⟨69,38,69,46⟩) ⟨69,34,69,46⟩) (eInt 1 0 ⟨69,49,69,50⟩) ⟨69,34,69,50⟩) ⟨69,21,69,51⟩) (ePow (eInt 10 0 ⟨69,54,69,56⟩) (eInt 60 0 ⟨69,60,69,62⟩) ⟨69,54,69,62⟩) ⟨69,21,69,62⟩) (eInt 1 0 ⟨69,65,69,66⟩) ⟨69,21,69,66⟩) rNil)) 0 ⟨69,13,69,67⟩ rfl) ⟨69,4,69,10⟩ ⟨69,4,69,67⟩ (by kernel_rfl)) (lCons (sRet (eIdx true (eLst (rCons (eVar "_law_n" 2 ⟨70,12,70,18⟩ (by kernel_rfl)) (rCons (eTup (rCons (eStr "name" z_name 0 ⟨70,21,70,27⟩ z_name_e z_name_k) (rCons (eMulS (eIdxV true "_law_letters" 1 ⟨70,29,70,41⟩ (eMod (eVar "_law_cell" 0 ⟨70,42,70,51⟩ (by kernel_rfl)) (eInt 26 0 ⟨70,54,70,56⟩) ⟨70,42,70,56⟩) ⟨70,29,70,57⟩ (by kernel_rfl)) (eAdd (eInt 1 0 ⟨70,61,70,62⟩) (eMod (eDiv (eVar "_law_cell" 0 ⟨70,65,70,74⟩ (by kernel_rfl)) (eInt 26 0 ⟨70,78,70,80⟩) ⟨70,65,70,80⟩) (eInt 8 0 ⟨70,83,70,84⟩) ⟨70,65,70,84⟩) ⟨70,61,70,84⟩) ⟨70,29,70,85⟩) rNil)) 0 ⟨70,20,70,86⟩ rfl) (rCons (eTup (rCons (eStr "fun" z_fun 0 ⟨70,89,70,94⟩ z_fun_e z_fun_k) (rCons (eStr "q" z_q 0 ⟨70,96,70,99⟩ z_q_e z_q_k) (rCons (eVar "_law_n" 2 ⟨70,101,70,107⟩ (by kernel_rfl)) rNil))) 0 ⟨70,88,70,108⟩ rfl) (rCons (eTup (rCons (eStr "less" z_less 0 ⟨70,111,70,117⟩ z_less_e z_less_k) (rCons (eVar "_law_n" 2 ⟨70,119,70,125⟩ (by kernel_rfl)) (rCons (eVar "_law_n" 2 ⟨70,127,70,133⟩ (by kernel_rfl)) rNil))) 0 ⟨70,110,70,134⟩ rfl) rNil)))) ⟨70,11,70,135⟩ rfl) (eMod (eDiv (eVar "_law_cell" 0 ⟨70,136,70,145⟩ (by kernel_rfl)) (eInt 5 0 ⟨70,149,70,150⟩) ⟨70,136,70,150⟩) (eInt 4 0 ⟨70,153,70,154⟩) ⟨70,136,70,154⟩) ⟨70,11,70,155⟩) ⟨70,4,70,155⟩) lNil)))
theorem b__law_fine_x (d : Nat) : (b__law_fine d).xs = fd__law_fine.st := by kernel_rfl
noncomputable def b__law_whole (d : Nat) : SL G d fi__law_whole :=
(lCons (sAsg "_law_one" 1 (eTup (rCons (eStr "plus" z_plus 0 ⟨72,16,72,22⟩ z_plus_e z_plus_k) (rCons (eIdxV false "_law_things" 0 ⟨72,24,72,35⟩ (eInt 0 0 ⟨72,36,72,37⟩) ⟨72,24,72,38⟩ (by kernel_rfl)) (rCons (eTup (rCons (eStr "if" z_if 0 ⟨72,41,72,45⟩ z_if_e z_if_k) (rCons (eIdxV false "_law_things" 0 ⟨72,47,72,58⟩ (eInt 1 0 ⟨72,59,72,60⟩) ⟨72,47,72,61⟩ (by kernel_rfl)) (rCons (eIdxV false "_law_things" 0 ⟨72,63,72,74⟩ (eInt 2 0 ⟨72,75,72,76⟩) ⟨72,63,72,77⟩ (by kernel_rfl)) (rCons (eIdxV false "_law_things" 0 ⟨72,79,72,90⟩ (eInt 3 0 ⟨72,91,72,92⟩) ⟨72,79,72,93⟩ (by kernel_rfl)) rNil)))) 0 ⟨72,40,72,94⟩ rfl) rNil))) 0 ⟨72,15,72,95⟩ rfl) ⟨72,4,72,12⟩ ⟨72,4,72,95⟩ (by kernel_rfl)) (lCons (sAsg "_law_other" 2 (eTup (rCons (eStr "let" z_let 0 ⟨73,18,73,23⟩ z_let_e z_let_k) (rCons (eStr "abcdefgh" z_abcdefgh 0 ⟨73,25,73,35⟩ z_abcdefgh_e z_abcdefgh_k) (rCons (eIdxV false "_law_things" 0 ⟨73,37,73,48⟩ (eInt 4 0 ⟨73,49,73,50⟩) ⟨73,37,73,51⟩ (by kernel_rfl)) (rCons (eTup (rCons (eStr "call" z_call 0 ⟨73,54,73,60⟩ z_call_e z_call_k) (rCons (eIdxV false "_law_things" 0 ⟨73,62,73,73⟩ (eInt 5 0 ⟨73,74,73,75⟩) ⟨73,62,73,76⟩ (by kernel_rfl)) (rCons (eIdxV false "_law_things" 0 ⟨73,78,73,89⟩ (eInt 6 0 ⟨73,90,73,91⟩) ⟨73,78,73,92⟩ (by kernel_rfl)) rNil))) 0 ⟨73,53,73,93⟩ rfl) rNil)))) 0 ⟨73,17,73,94⟩ rfl) ⟨73,4,73,14⟩ ⟨73,4,73,94⟩ (by kernel_rfl)) (lCons (sAsg "_law_third" 3 (eTup (rCons (eStr "fun" z_fun 0 ⟨74,18,74,23⟩ z_fun_e z_fun_k) (rCons (eStr "z" z_z 0 ⟨74,25,74,28⟩ z_z_e z_z_k) (rCons (eTup (rCons (eStr "less" z_less 0 ⟨74,31,74,37⟩ z_less_e z_less_k) (rCons (eIdxV false "_law_things" 0 ⟨74,39,74,50⟩ (eInt 7 0 ⟨74,51,74,52⟩) ⟨74,39,74,53⟩ (by kernel_rfl)) (rCons (eIdxV false "_law_things" 0 ⟨74,55,74,66⟩ (eInt 8 0 ⟨74,67,74,68⟩) ⟨74,55,74,69⟩ (by kernel_rfl)) rNil))) 0 ⟨74,30,74,70⟩ rfl) rNil))) 0 ⟨74,17,74,71⟩ rfl) ⟨74,4,74,14⟩ ⟨74,4,74,71⟩ (by kernel_rfl)) (lCons (sRet (eTup (rCons (eStr "plus" z_plus 0 ⟨75,12,75,18⟩ z_plus_e z_plus_k) (rCons (eTup (rCons (eStr "plus" z_plus 0 ⟨75,21,75,27⟩ z_plus_e z_plus_k) (rCons (eVar "_law_one" 1 ⟨75,29,75,37⟩ (by kernel_rfl)) (rCons (eVar "_law_other" 2 ⟨75,39,75,49⟩ (by kernel_rfl)) rNil))) 0 ⟨75,20,75,50⟩ rfl) (rCons (eTup (rCons (eStr "call" z_call 0 ⟨75,53,75,59⟩ z_call_e z_call_k) (rCons (eVar "_law_third" 3 ⟨75,61,75,71⟩ (by kernel_rfl)) (rCons (eTup (rCons (eStr "let" z_let 0 ⟨75,74,75,79⟩ z_let_e z_let_k) (rCons (eStr "fu" z_fu 0 ⟨75,81,75,85⟩ z_fu_e z_fu_k) (rCons (eIdxV false "_law_things" 0 ⟨75,87,75,98⟩ (eInt 9 0 ⟨75,99,75,100⟩) ⟨75,87,75,101⟩ (by kernel_rfl)) (rCons (eTup (rCons (eStr "plus" z_plus 0 ⟨75,104,75,110⟩ z_plus_e z_plus_k) (rCons (eIdxV false "_law_things" 0 ⟨75,112,75,123⟩ (eInt 10 0 ⟨75,124,75,126⟩) ⟨75,112,75,127⟩ (by kernel_rfl)) (rCons (eIdxV false "_law_things" 0 ⟨75,129,75,140⟩ (eInt 11 0 ⟨75,141,75,143⟩) ⟨75,129,75,144⟩ (by kernel_rfl)) rNil))) 0 ⟨75,103,75,145⟩ rfl) rNil)))) 0 ⟨75,73,75,146⟩ rfl) rNil))) 0 ⟨75,52,75,147⟩ rfl) rNil))) 0 ⟨75,11,75,148⟩ rfl) ⟨75,4,75,148⟩) lNil))))
theorem b__law_whole_x (d : Nat) : (b__law_whole d).xs = fd__law_whole.st := by kernel_rfl
theorem st__law_refused : fd__law_refused.st = [(.Try [(.Expr (.Call (.Name "need_tree" ⟨78,8,78,17⟩) [(.Name "_law_tree" ⟨78,18,78,27⟩)] [] ⟨78,8,78,28⟩) ⟨78,8,78,28⟩)] [.ExceptHandler (some (.Name "NoTree" ⟨79,11,79,17⟩)) (some "e") [(.Return (some (.BoolOp .And [(.Call (.Name "isinstance" ⟨80,15,80,25⟩) [(.Name "e" ⟨80,26,80,27⟩), (.Name "MillError" ⟨80,29,80,38⟩)] [] ⟨80,15,80,39⟩), (.Call (.Name "isinstance" ⟨80,44,80,54⟩) [(.Name "e" ⟨80,55,80,56⟩), (.Name "ValueError" ⟨80,58,80,68⟩)] [] ⟨80,44,80,69⟩)] ⟨80,15,80,69⟩)) ⟨80,8,80,69⟩)] ⟨79,4,80,69⟩] [] [] ⟨77,4,80,69⟩), (.Return (some (.Constant (.bool false) 0 ⟨81,11,81,16⟩)) ⟨81,4,81,16⟩)] := by kernel_rfl
noncomputable def l__law_deep_84 (d : Nat) : SL G d fi__law_deep :=
(lCons (sAsg "_law_tree" 1 (eTup (rCons (eStr "fun" z_fun 0 ⟨85,21,85,26⟩ z_fun_e z_fun_k) (rCons (eStr "f" z_f 0 ⟨85,28,85,31⟩ z_f_e z_f_k) (rCons (eVar "_law_tree" 1 ⟨85,33,85,42⟩ (by kernel_rfl)) rNil))) 0 ⟨85,20,85,43⟩ rfl) ⟨85,8,85,17⟩ ⟨85,8,85,43⟩ (by kernel_rfl)) lNil)
noncomputable def b__law_deep (d : Nat) : SL G d fi__law_deep :=
(lCons (sAsg "_law_tree" 1 (eTup (rCons (eStr "num" z_num 0 ⟨83,17,83,22⟩ z_num_e z_num_k) (rCons (eVar "_law_many" 0 ⟨83,24,83,33⟩ (by kernel_rfl)) rNil)) 0 ⟨83,16,83,34⟩ rfl) ⟨83,4,83,13⟩ ⟨83,4,83,34⟩ (by kernel_rfl)) (lCons (sFor "_law_k" (iRange (rCons (eSub (eVar "_law_many" 0 ⟨84,24,84,33⟩ (by kernel_rfl)) (eInt 1 0 ⟨84,36,84,37⟩) ⟨84,24,84,37⟩) rNil) ⟨84,18,84,23⟩ ⟨84,18,84,38⟩ (by kernel_rfl)) (l__law_deep_84 d) ⟨84,8,84,14⟩ ⟨84,4,85,43⟩) (lCons (sRetV "_law_tree" 1 ⟨86,11,86,20⟩ ⟨86,4,86,20⟩ (by kernel_rfl)) lNil)))
theorem b__law_deep_x (d : Nat) : (b__law_deep d).xs = fd__law_deep.st := by kernel_rfl
noncomputable def b__law_two (d : Nat) : SL G d fi__law_two :=
(lCons (sIte true (eEq (eVar "_law_kind" 0 ⟨88,7,88,16⟩ (by kernel_rfl)) (eInt 3 0 ⟨88,20,88,21⟩) ⟨88,7,88,21⟩)
(lCons (sRet (eTup (rCons (eStr "let" z_let 0 ⟨89,16,89,21⟩ z_let_e z_let_k) (rCons (eStr "v" z_v 0 ⟨89,23,89,26⟩ z_v_e z_v_k) (rCons (eVar "_law_one" 1 ⟨89,28,89,36⟩ (by kernel_rfl)) (rCons (eVar "_law_other" 2 ⟨89,38,89,48⟩ (by kernel_rfl)) rNil)))) 0 ⟨89,15,89,49⟩ rfl) ⟨89,8,89,49⟩) lNil)
lNil ⟨88,4,89,49⟩) (lCons (sRet (eTup (rCons (eIdx true (eLst (rCons (eStr "plus" z_plus 0 ⟨90,13,90,19⟩ z_plus_e z_plus_k) (rCons (eStr "call" z_call 0 ⟨90,21,90,27⟩ z_call_e z_call_k) (rCons (eStr "less" z_less 0 ⟨90,29,90,35⟩ z_less_e z_less_k) rNil))) ⟨90,12,90,36⟩ rfl) (eVar "_law_kind" 0 ⟨90,37,90,46⟩ (by kernel_rfl)) ⟨90,12,90,47⟩) (rCons (eVar "_law_one" 1 ⟨90,49,90,57⟩ (by kernel_rfl)) (rCons (eVar "_law_other" 2 ⟨90,59,90,69⟩ (by kernel_rfl)) rNil))) 0 ⟨90,11,90,70⟩ rfl) ⟨90,4,90,70⟩) lNil))
theorem b__law_two_x (d : Nat) : (b__law_two d).xs = fd__law_two.st := by kernel_rfl
noncomputable def s__law_wide_92_15 : Scope := ⟨.function, [(".0", .local), ("_law_k", .local)], false, false, []⟩
noncomputable def e__law_wide_92_15 (d : Nat) : T G d (fi__law_wide.inner s__law_wide_92_15 "_law_k" 3) := (eTup (rCons (eStr "num" z_num 0 ⟨92,17,92,22⟩ z_num_e z_num_k) (rCons (eMod (eVar "_law_k" 3 ⟨92,24,92,30⟩ (by kernel_rfl)) (eInt 3 0 ⟨92,33,92,34⟩) ⟨92,24,92,34⟩) rNil)) 0 ⟨92,16,92,35⟩ rfl)
noncomputable def s__law_wide_94_22 : Scope := ⟨.function, [(".0", .local), ("_law_k", .local), ("_law_two", .globalImplicit), ("_law_row", .free)], false, false, []⟩
noncomputable def e__law_wide_94_22 (d : Nat) : T G d (fi__law_wide.inner s__law_wide_94_22 "_law_k" 3) := (eCall "_law_two" 125 (rCons (eMod (eDiv (eVar "_law_k" 3 ⟨94,32,94,38⟩ (by kernel_rfl)) (eInt 2 0 ⟨94,42,94,43⟩) ⟨94,32,94,43⟩) (eInt 4 0 ⟨94,46,94,47⟩) ⟨94,32,94,47⟩) (rCons (eIdxV true "_law_row" 1 ⟨94,49,94,57⟩ (eVar "_law_k" 3 ⟨94,58,94,64⟩ (by kernel_rfl)) ⟨94,49,94,65⟩ (by kernel_rfl)) (rCons (eIdxV true "_law_row" 1 ⟨94,67,94,75⟩ (eAdd (eVar "_law_k" 3 ⟨94,76,94,82⟩ (by kernel_rfl)) (eInt 1 0 ⟨94,85,94,86⟩) ⟨94,76,94,86⟩) ⟨94,67,94,87⟩ (by kernel_rfl)) rNil))) ⟨94,23,94,31⟩ ⟨94,23,94,88⟩ (by kernel_rfl))
noncomputable def c__law_wide_93 (d : Nat) : T G d fi__law_wide := (eGt (eLen (eVarF "_law_row" 1 ⟨93,14,93,22⟩ (by kernel_rfl)) ⟨93,10,93,13⟩ ⟨93,10,93,23⟩ (by kernel_rfl)) (eInt 1 0 ⟨93,26,93,27⟩) ⟨93,10,93,27⟩)
noncomputable def l__law_wide_93 (d : Nat) : SL G d fi__law_wide :=
(lCons (sAsgC "_law_joined" 2 ⟨94,8,94,19⟩ ⟨94,8,94,134⟩ "_law_k" 3 ⟨94,93,94,99⟩ (iRange2 (rCons (eInt 0 0 ⟨94,109,94,110⟩) (rCons (eSub (eLen (eVar "_law_row" 1 ⟨94,116,94,124⟩ (by kernel_rfl)) ⟨94,112,94,115⟩ ⟨94,112,94,125⟩ (by kernel_rfl)) (eInt 1 0 ⟨94,128,94,129⟩) ⟨94,112,94,129⟩) (rCons (eInt 2 0 ⟨94,131,94,132⟩) rNil))) ⟨94,103,94,108⟩ ⟨94,103,94,133⟩ (by kernel_rfl)) s__law_wide_94_22 (e__law_wide_94_22 d) ⟨94,22,94,134⟩ (by kernel_rfl)) (lCons (sIte true (eEq (eMod (eLen (eVar "_law_row" 1 ⟨95,15,95,23⟩ (by kernel_rfl)) ⟨95,11,95,14⟩ ⟨95,11,95,24⟩ (by kernel_rfl)) (eInt 2 0 ⟨95,27,95,28⟩) ⟨95,11,95,28⟩) (eInt 1 0 ⟨95,32,95,33⟩) ⟨95,11,95,33⟩)
(lCons (sApp "_law_joined" 2 (eIdxV true "_law_row" 1 ⟨96,31,96,39⟩ (eNeg (eInt 1 0 ⟨96,41,96,42⟩) ⟨96,40,96,42⟩) ⟨96,31,96,43⟩ (by kernel_rfl)) ⟨96,12,96,23⟩ ⟨96,12,96,30⟩ ⟨96,12,96,44⟩ ⟨96,12,96,44⟩ (by kernel_rfl)) lNil)
lNil ⟨95,8,96,44⟩) (lCons (sAsg "_law_row" 1 (eVar "_law_joined" 2 ⟨97,19,97,30⟩ (by kernel_rfl)) ⟨97,8,97,16⟩ ⟨97,8,97,30⟩ (by kernel_rfl)) lNil)))
noncomputable def b__law_wide (d : Nat) : SL G d fi__law_wide :=
(lCons (sAsgK "_law_row" 1 ⟨92,4,92,12⟩ ⟨92,4,92,90⟩ "_law_k" 3 ⟨92,40,92,46⟩ (iRange (rCons (eDiv (eAdd (eVar "_law_many" 0 ⟨92,57,92,66⟩ (by kernel_rfl)) (eMod (eVar "_law_many" 0 ⟨92,69,92,78⟩ (by kernel_rfl)) (eInt 2 0 ⟨92,81,92,82⟩) ⟨92,69,92,82⟩) ⟨92,57,92,82⟩) (eInt 2 0 ⟨92,87,92,88⟩) ⟨92,56,92,88⟩) rNil) ⟨92,50,92,55⟩ ⟨92,50,92,89⟩ (by kernel_rfl)) s__law_wide_92_15 (e__law_wide_92_15 d) ⟨92,15,92,90⟩ (by kernel_rfl)) (lCons (sWhil (c__law_wide_93 d) (l__law_wide_93 d) ⟨93,4,97,30⟩) (lCons (sIte true (eEq (eMod (eVar "_law_many" 0 ⟨98,7,98,16⟩ (by kernel_rfl)) (eInt 2 0 ⟨98,19,98,20⟩) ⟨98,7,98,20⟩) (eInt 0 0 ⟨98,24,98,25⟩) ⟨98,7,98,25⟩)
(lCons (sRet (eTup (rCons (eStr "fun" z_fun 0 ⟨99,16,99,21⟩ z_fun_e z_fun_k) (rCons (eStr "f" z_f 0 ⟨99,23,99,26⟩ z_f_e z_f_k) (rCons (eIdxV false "_law_row" 1 ⟨99,28,99,36⟩ (eInt 0 0 ⟨99,37,99,38⟩) ⟨99,28,99,39⟩ (by kernel_rfl)) rNil))) 0 ⟨99,15,99,40⟩ rfl) ⟨99,8,99,40⟩) lNil)
lNil ⟨98,4,99,40⟩) (lCons (sRet (eIdxV false "_law_row" 1 ⟨100,11,100,19⟩ (eInt 0 0 ⟨100,20,100,21⟩) ⟨100,11,100,22⟩ (by kernel_rfl)) ⟨100,4,100,22⟩) lNil))))
theorem b__law_wide_x (d : Nat) : (b__law_wide d).xs = fd__law_wide.st := by kernel_rfl
noncomputable def l__law_same_108 (d : Nat) : SL G d fi__law_same :=
(lCons (sApp "_law_todo" 2 (eTup (rCons (eIdx true (eIdxV false "_law_pair" 3 ⟨109,34,109,43⟩ (eInt 0 0 ⟨109,44,109,45⟩) ⟨109,34,109,46⟩ (by kernel_rfl)) (eVar "_law_k" 4 ⟨109,47,109,53⟩ (by kernel_rfl)) ⟨109,34,109,54⟩) (rCons (eIdx true (eIdxV false "_law_pair" 3 ⟨109,56,109,65⟩ (eInt 1 0 ⟨109,66,109,67⟩) ⟨109,56,109,68⟩ (by kernel_rfl)) (eVar "_law_k" 4 ⟨109,69,109,75⟩ (by kernel_rfl)) ⟨109,56,109,76⟩) rNil)) 0 ⟨109,33,109,77⟩ rfl) ⟨109,16,109,25⟩ ⟨109,16,109,32⟩ ⟨109,16,109,78⟩ ⟨109,16,109,78⟩ (by kernel_rfl)) lNil)
noncomputable def c__law_same_103 (d : Nat) : T G d fi__law_same := (eVar "_law_todo" 2 ⟨103,10,103,19⟩ (by kernel_rfl))
noncomputable def l__law_same_103 (d : Nat) : SL G d fi__law_same :=
(lCons (sAsg "_law_pair" 3 (ePop "_law_todo" 2 ⟨104,20,104,29⟩ ⟨104,20,104,33⟩ ⟨104,20,104,35⟩ (by kernel_rfl)) ⟨104,8,104,17⟩ ⟨104,8,104,35⟩ (by kernel_rfl)) (lCons (sIte false (eIsi (eIdxV false "_law_pair" 3 ⟨105,22,105,31⟩ (eInt 0 0 ⟨105,32,105,33⟩) ⟨105,22,105,34⟩ (by kernel_rfl)) .tuple ⟨105,11,105,21⟩ ⟨105,36,105,41⟩ ⟨105,11,105,42⟩ (by kernel_rfl))
(lCons (sIte true (eBop (bCons false (eNot (eIsi (eIdxV false "_law_pair" 3 ⟨106,30,106,39⟩ (eInt 1 0 ⟨106,40,106,41⟩) ⟨106,30,106,42⟩ (by kernel_rfl)) .tuple ⟨106,19,106,29⟩ ⟨106,44,106,49⟩ ⟨106,19,106,50⟩ (by kernel_rfl)) ⟨106,15,106,50⟩) (bLast .Or (eNe (eLen (eIdxV false "_law_pair" 3 ⟨106,58,106,67⟩ (eInt 0 0 ⟨106,68,106,69⟩) ⟨106,58,106,70⟩ (by kernel_rfl)) ⟨106,54,106,57⟩ ⟨106,54,106,71⟩ (by kernel_rfl)) (eLen (eIdxV false "_law_pair" 3 ⟨106,79,106,88⟩ (eInt 1 0 ⟨106,89,106,90⟩) ⟨106,79,106,91⟩ (by kernel_rfl)) ⟨106,75,106,78⟩ ⟨106,75,106,92⟩ (by kernel_rfl)) ⟨106,54,106,92⟩))) ⟨106,15,106,92⟩)
(lCons (sRet (eBool false 0 ⟨107,23,107,28⟩) ⟨107,16,107,28⟩) lNil)
lNil ⟨106,12,107,28⟩) (lCons (sFor "_law_k" (iRange (rCons (eLen (eIdxV false "_law_pair" 3 ⟨108,36,108,45⟩ (eInt 0 0 ⟨108,46,108,47⟩) ⟨108,36,108,48⟩ (by kernel_rfl)) ⟨108,32,108,35⟩ ⟨108,32,108,49⟩ (by kernel_rfl)) rNil) ⟨108,26,108,31⟩ ⟨108,26,108,50⟩ (by kernel_rfl)) (l__law_same_108 d) ⟨108,16,108,22⟩ ⟨108,12,109,78⟩) lNil))
(lCons (sIte false (eBop (bCons false (eIsi (eIdxV false "_law_pair" 3 ⟨110,24,110,33⟩ (eInt 1 0 ⟨110,34,110,35⟩) ⟨110,24,110,36⟩ (by kernel_rfl)) .bool ⟨110,13,110,23⟩ ⟨110,38,110,42⟩ ⟨110,13,110,43⟩ (by kernel_rfl)) (bCons false (eNeS (eIsi (eIdxV false "_law_pair" 3 ⟨110,58,110,67⟩ (eInt 0 0 ⟨110,68,110,69⟩) ⟨110,58,110,70⟩ (by kernel_rfl)) .str ⟨110,47,110,57⟩ ⟨110,72,110,75⟩ ⟨110,47,110,76⟩ (by kernel_rfl)) (eIsi (eIdxV false "_law_pair" 3 ⟨110,91,110,100⟩ (eInt 1 0 ⟨110,101,110,102⟩) ⟨110,91,110,103⟩ (by kernel_rfl)) .str ⟨110,80,110,90⟩ ⟨110,105,110,108⟩ ⟨110,80,110,109⟩ (by kernel_rfl)) ⟨110,47,110,109⟩) (bLast .Or (eNeS (eIdxV false "_law_pair" 3 ⟨110,113,110,122⟩ (eInt 0 0 ⟨110,123,110,124⟩) ⟨110,113,110,125⟩ (by kernel_rfl)) (eIdxV false "_law_pair" 3 ⟨110,129,110,138⟩ (eInt 1 0 ⟨110,139,110,140⟩) ⟨110,129,110,141⟩ (by kernel_rfl)) ⟨110,113,110,141⟩)))) ⟨110,13,110,141⟩)
(lCons (sRet (eBool false 0 ⟨111,19,111,24⟩) ⟨111,12,111,24⟩) lNil)
lNil ⟨110,8,111,24⟩) lNil) ⟨105,8,111,24⟩) lNil))
noncomputable def b__law_same (d : Nat) : SL G d fi__law_same :=
(lCons (sAsg "_law_todo" 2 (eLst (rCons (eTup (rCons (eVar "_law_one" 0 ⟨102,18,102,26⟩ (by kernel_rfl)) (rCons (eVar "_law_other" 1 ⟨102,28,102,38⟩ (by kernel_rfl)) rNil)) 0 ⟨102,17,102,39⟩ rfl) rNil) ⟨102,16,102,40⟩ rfl) ⟨102,4,102,13⟩ ⟨102,4,102,40⟩ (by kernel_rfl)) (lCons (sWhil (c__law_same_103 d) (l__law_same_103 d) ⟨103,4,111,24⟩) (lCons (sRet (eBool true 0 ⟨112,11,112,15⟩) ⟨112,4,112,15⟩) lNil)))
theorem b__law_same_x (d : Nat) : (b__law_same d).xs = fd__law_same.st := by kernel_rfl
noncomputable def s_law_121_18 : Scope := ⟨.function, [(".0", .local), ("_law_k", .local), ("_law_fine", .globalImplicit), ("_law_cell_at", .globalImplicit), ("_law_script", .free)], false, false, []⟩
noncomputable def e_law_121_18 (d : Nat) : T G d (fi_law.inner s_law_121_18 "_law_k" 7) := (eCall "_law_fine" 97 (rCons (eAdd (eCall "_law_cell_at" 83 (rCons (eVar "_law_script" 0 ⟨121,42,121,53⟩ (by kernel_rfl)) (rCons (eAdd (eInt 3 0 ⟨121,55,121,56⟩) (eVar "_law_k" 7 ⟨121,59,121,65⟩ (by kernel_rfl)) ⟨121,55,121,65⟩) rNil)) ⟨121,29,121,41⟩ ⟨121,29,121,66⟩ (by kernel_rfl)) (eVar "_law_k" 7 ⟨121,69,121,75⟩ (by kernel_rfl)) ⟨121,29,121,75⟩) rNil) ⟨121,19,121,28⟩ ⟨121,19,121,76⟩ (by kernel_rfl))
noncomputable def b_law (d : Nat) : SW G d fi_law :=
(wCons (sAsg "_law_way" 1 (eMod (eCall "_law_cell_at" 83 (rCons (eVar "_law_script" 0 ⟨114,28,114,39⟩ (by kernel_rfl)) (rCons (eInt 0 0 ⟨114,41,114,42⟩) rNil)) ⟨114,15,114,27⟩ ⟨114,15,114,43⟩ (by kernel_rfl)) (eInt 8 0 ⟨114,46,114,47⟩) ⟨114,15,114,47⟩) ⟨114,4,114,12⟩ ⟨114,4,114,47⟩ (by kernel_rfl))
(wIf true (eEq (eVar "_law_way" 1 ⟨115,7,115,15⟩ (by kernel_rfl)) (eInt 0 0 ⟨115,19,115,20⟩) ⟨115,7,115,20⟩)
(wCons (sAsg "_law_many" 2 (eAdd (eInt 395 0 ⟨116,20,116,23⟩) (eMod (eCall "_law_cell_at" 83 (rCons (eVar "_law_script" 0 ⟨116,39,116,50⟩ (by kernel_rfl)) (rCons (eInt 1 0 ⟨116,52,116,53⟩) rNil)) ⟨116,26,116,38⟩ ⟨116,26,116,54⟩ (by kernel_rfl)) (eInt 10 0 ⟨116,57,116,59⟩) ⟨116,26,116,59⟩) ⟨116,20,116,59⟩) ⟨116,8,116,17⟩ ⟨116,8,116,59⟩ (by kernel_rfl))
(wCons (sAsg "_law_tree" 3 (eIdx true (eLst (rCons (eCall "_law_deep" 118 (rCons (eVar "_law_many" 2 ⟨117,31,117,40⟩ (by kernel_rfl)) rNil) ⟨117,21,117,30⟩ ⟨117,21,117,41⟩ (by kernel_rfl)) (rCons (eCall "_law_wide" 130 (rCons (eVar "_law_many" 2 ⟨117,53,117,62⟩ (by kernel_rfl)) rNil) ⟨117,43,117,52⟩ ⟨117,43,117,63⟩ (by kernel_rfl)) rNil)) ⟨117,20,117,64⟩ rfl) (eMod (eDiv (eCall "_law_cell_at" 83 (rCons (eVar "_law_script" 0 ⟨117,78,117,89⟩ (by kernel_rfl)) (rCons (eInt 1 0 ⟨117,91,117,92⟩) rNil)) ⟨117,65,117,77⟩ ⟨117,65,117,93⟩ (by kernel_rfl)) (eInt 10 0 ⟨117,97,117,99⟩) ⟨117,65,117,99⟩) (eInt 2 0 ⟨117,102,117,103⟩) ⟨117,65,117,103⟩) ⟨117,20,117,104⟩) ⟨117,8,117,17⟩ ⟨117,8,117,104⟩ (by kernel_rfl))
(wIf true (eGt (eVar "_law_many" 2 ⟨118,11,118,20⟩ (by kernel_rfl)) (eInt 400 0 ⟨118,23,118,26⟩) ⟨118,11,118,26⟩)
(wRet "_law_refused" 111 (rCons (eVar "_law_tree" 3 ⟨119,32,119,41⟩ (by kernel_rfl)) rNil) ⟨119,19,119,31⟩ ⟨119,19,119,42⟩ ⟨119,12,119,42⟩ [] (by kernel_rfl))
(wOf (lCons (sRet (eCall "_law_same" 137 (rCons (eVar "_law_tree" 3 ⟨120,25,120,34⟩ (by kernel_rfl)) (rCons (eCall "need_tree" 76 (rCons (eVar "_law_tree" 3 ⟨120,46,120,55⟩ (by kernel_rfl)) rNil) ⟨120,36,120,45⟩ ⟨120,36,120,56⟩ (by kernel_rfl)) rNil)) ⟨120,15,120,24⟩ ⟨120,15,120,57⟩ (by kernel_rfl)) ⟨120,8,120,57⟩) lNil)) ⟨118,8,119,42⟩)))
(wCons (sAsgC "_law_things" 4 ⟨121,4,121,15⟩ ⟨121,4,121,101⟩ "_law_k" 7 ⟨121,81,121,87⟩ (iRange (rCons (eInt 12 0 ⟨121,97,121,99⟩) rNil) ⟨121,91,121,96⟩ ⟨121,91,121,100⟩ (by kernel_rfl)) s_law_121_18 (e_law_121_18 d) ⟨121,18,121,101⟩ (by kernel_rfl))
(wIf true (eEq (eVar "_law_way" 1 ⟨122,7,122,15⟩ (by kernel_rfl)) (eInt 1 0 ⟨122,19,122,20⟩) ⟨122,7,122,20⟩)
(wCons (sAsg "_law_found" 5 (eCall "need_tree" 76 (rCons (eCall "_law_whole" 104 (rCons (eVar "_law_things" 4 ⟨123,42,123,53⟩ (by kernel_rfl)) rNil) ⟨123,31,123,41⟩ ⟨123,31,123,54⟩ (by kernel_rfl)) rNil) ⟨123,21,123,30⟩ ⟨123,21,123,55⟩ (by kernel_rfl)) ⟨123,8,123,18⟩ ⟨123,8,123,55⟩ (by kernel_rfl))
(wOf (lCons (sRet (eBop (bCons false (eIsi (eVar "_law_found" 5 ⟨124,26,124,36⟩ (by kernel_rfl)) .tuple ⟨124,15,124,25⟩ ⟨124,38,124,43⟩ ⟨124,15,124,44⟩ (by kernel_rfl)) (bLast .And (eEqS (eVar "_law_found" 5 ⟨124,49,124,59⟩ (by kernel_rfl)) (eCall "_law_whole" 104 (rCons (eVar "_law_things" 4 ⟨124,74,124,85⟩ (by kernel_rfl)) rNil) ⟨124,63,124,73⟩ ⟨124,63,124,86⟩ (by kernel_rfl)) ⟨124,49,124,86⟩))) ⟨124,15,124,86⟩) ⟨124,8,124,86⟩) lNil)))
(wCons (sAsg "_law_odd_here" 6 (eCall "_law_odd" 90 (rCons (eCall "_law_cell_at" 83 (rCons (eVar "_law_script" 0 ⟨125,42,125,53⟩ (by kernel_rfl)) (rCons (eInt 1 0 ⟨125,55,125,56⟩) rNil)) ⟨125,29,125,41⟩ ⟨125,29,125,57⟩ (by kernel_rfl)) rNil) ⟨125,20,125,28⟩ ⟨125,20,125,58⟩ (by kernel_rfl)) ⟨125,4,125,17⟩ ⟨125,4,125,58⟩ (by kernel_rfl))
(wIf true (eEq (eVar "_law_way" 1 ⟨126,7,126,15⟩ (by kernel_rfl)) (eInt 2 0 ⟨126,19,126,20⟩) ⟨126,7,126,20⟩)
(wRet "_law_refused" 111 (rCons (eVar "_law_odd_here" 6 ⟨127,28,127,41⟩ (by kernel_rfl)) rNil) ⟨127,15,127,27⟩ ⟨127,15,127,42⟩ ⟨127,8,127,42⟩ [] (by kernel_rfl))
(wCons (sSet "_law_things" 4 (eTell (eMod (eCall "_law_cell_at" 83 (rCons (eVar "_law_script" 0 ⟨128,29,128,40⟩ (by kernel_rfl)) (rCons (eInt 2 0 ⟨128,42,128,43⟩) rNil)) ⟨128,16,128,28⟩ ⟨128,16,128,44⟩ (by kernel_rfl)) (eInt 12 0 ⟨128,47,128,49⟩) ⟨128,16,128,49⟩)) (eVar "_law_odd_here" 6 ⟨128,53,128,66⟩ (by kernel_rfl)) ⟨128,4,128,15⟩ ⟨128,4,128,50⟩ ⟨128,4,128,66⟩ (by kernel_rfl))
(wRet "_law_refused" 111 (rCons (eCall "_law_whole" 104 (rCons (eVar "_law_things" 4 ⟨129,35,129,46⟩ (by kernel_rfl)) rNil) ⟨129,24,129,34⟩ ⟨129,24,129,47⟩ (by kernel_rfl)) rNil) ⟨129,11,129,23⟩ ⟨129,11,129,48⟩ ⟨129,4,129,48⟩ [] (by kernel_rfl))) ⟨126,4,127,42⟩)) ⟨122,4,124,86⟩)) ⟨115,4,120,57⟩))
theorem b_law_x (d : Nat) : (b_law d).xs = fd_law.st := by kernel_rfl
end Mine.L02
end

section
open PySem
set_option autoImplicit false
set_option maxRecDepth 100000
namespace Mine.L02
noncomputable def isName (s : List Nat) : Bool := decide ((1 : Int) ≤ s.length) && (decide ((s.length : Int) ≤ 8) && (!words.any (· == s) && s.all (letters.contains ·)))
noncomputable def nmV (v : V) : Bool := V.casesOn v false (fun _ => false) (fun _ => false) isName (fun _ => false) (fun _ => false)
noncomputable def numV (v : V) : Bool := V.casesOn v false (fun _ => false) (fun i => decide (-great < i) && decide (i < great)) (fun _ => false) (fun _ => false) (fun _ => false)
noncomputable def wholeV (v : V) : Bool := V.casesOn v false (fun _ => false) (fun _ => true) (fun _ => false) (fun _ => false) (fun _ => false)
set_option genSizeOf false in
set_option genInjectivity false in
inductive BadN : V → Prop
  | none : BadN .none
  | int (i : Int) : BadN (.int i)
  | str (s : List Nat) : BadN (.str s)
  | lst (l : List V) : BadN (.lst l)
  | nil : BadN (.tup [])
  | head (l r : List V) : BadN (.tup (.tup l :: r))
  | word {s : List Nat} {r : List V} : words.any (· == s) = false → BadN (.tup (.str s :: r))
  | len {s : List Nat} {r : List V} {k : Int} : words.any (· == s) = true → lens.lookup s = some k → (((r.length + 1 : Nat) : Int) == k) = false → BadN (.tup (.str s :: r))
  | num {v : V} : numV v = false → BadN (.tup [.str z_num, v])
  | name {v : V} : nmV v = false → BadN (.tup [.str z_name, v])
  | fn {v b : V} : nmV v = false → BadN (.tup [.str z_fun, v, b])
  | lt {v a b : V} : nmV v = false → BadN (.tup [.str z_let, v, a, b])
set_option genSizeOf false in
set_option genInjectivity false in
inductive Tree where
  | odd (v : V)
  | num (i : Int)
  | name (x : List Nat)
  | fn (x : List Nat) (b : Tree)
  | call (f a : Tree)
  | plus (a b : Tree)
  | less (a b : Tree)
  | ite (c a b : Tree)
  | lt (x : List Nat) (e b : Tree)
noncomputable def tv (t : Tree) : V := Tree.rec (fun v => v) (fun i => .tup [.str z_num, .int i]) (fun x => .tup [.str z_name, .str x]) (fun x _ b => .tup [.str z_fun, .str x, b]) (fun _ _ f a => .tup [.str z_call, f, a]) (fun _ _ a b => .tup [.str z_plus, a, b]) (fun _ _ a b => .tup [.str z_less, a, b])
  (fun _ _ _ c a b => .tup [.str z_if, c, a, b]) (fun x _ _ e b => .tup [.str z_let, .str x, e, b]) t
noncomputable def ks (t : Tree) : List Tree := Tree.casesOn t (fun _ => []) (fun _ => []) (fun _ => []) (fun _ b => [b]) (fun a b => [b, a]) (fun a b => [b, a]) (fun a b => [b, a]) (fun c a b => [b, a, c]) (fun _ e b => [b, e])
noncomputable def sz (t : Tree) : Nat := Tree.rec (fun _ => 1) (fun _ => 1) (fun _ => 1) (fun _ _ b => b + 1) (fun _ _ a b => a + b + 1) (fun _ _ a b => a + b + 1) (fun _ _ a b => a + b + 1) (fun _ _ _ a b c => a + b + c + 1) (fun _ _ _ a b => a + b + 1) t
noncomputable def hasOdd (t : Tree) : Bool := Tree.rec (fun _ => true) (fun _ => false) (fun _ => false) (fun _ _ b => b) (fun _ _ a b => a || b) (fun _ _ a b => a || b) (fun _ _ a b => a || b) (fun _ _ _ a b c => a || (b || c)) (fun _ _ _ a b => a || b) t
noncomputable def isOdd (t : Tree) : Bool := Tree.casesOn t (fun _ => true) (fun _ => false) (fun _ => false) (fun _ _ => false) (fun _ _ => false) (fun _ _ => false) (fun _ _ => false) (fun _ _ _ => false) (fun _ _ _ => false)
def gd (t : Tree) : Prop := Tree.rec (fun v => BadN v) (fun i => numV (.int i) = true) (fun x => isName x = true) (fun x _ b => isName x = true ∧ b) (fun _ _ a b => a ∧ b) (fun _ _ a b => a ∧ b) (fun _ _ a b => a ∧ b) (fun _ _ _ a b c => a ∧ b ∧ c) (fun x _ _ a b => isName x = true ∧ a ∧ b) t
noncomputable def szL (ts : List Tree) : Nat := @List.rec Tree (fun _ => Nat) 0 (fun t _ r => sz t + r) ts
noncomputable def oddL (ts : List Tree) : Bool := @List.rec Tree (fun _ => Bool) false (fun t _ r => hasOdd t || r) ts
def gdL (ts : List Tree) : Prop := @List.rec Tree (fun _ => Prop) True (fun t _ r => gd t ∧ r) ts
theorem sz_pos (t : Tree) : 1 ≤ sz t := by cases t <;> exact Nat.succ_le_succ (Nat.zero_le _)
theorem szL_app : ∀ a b : List Tree, szL (a ++ b) = szL a + szL b
  | [], b => (Nat.zero_add _).symm
  | t :: a, b => by show sz t + szL (a ++ b) = sz t + szL a + szL b; rw [szL_app a b, Nat.add_assoc]
theorem oddL_app : ∀ a b : List Tree, oddL (a ++ b) = (oddL a || oddL b)
  | [], b => rfl
  | t :: a, b => by show (hasOdd t || oddL (a ++ b)) = _; rw [oddL_app a b, ← Bool.or_assoc]; rfl
theorem gdL_app : ∀ {a b : List Tree}, gdL a → gdL b → gdL (a ++ b)
  | [], _, _, h => h
  | t :: a, b, h, k => ⟨h.1, gdL_app h.2 k⟩
theorem ks_sz {t : Tree} (h : isOdd t = false) : szL (ks t) + 1 = sz t := by
  cases t <;> first | cases h | skip
  all_goals simp only [ks, szL, sz]; try omega
theorem ks_odd {t : Tree} (h : isOdd t = false) : oddL (ks t) = hasOdd t := by
  cases t <;> first | cases h | skip
  all_goals simp only [ks, oddL, hasOdd, Bool.or_false]
  all_goals first | rfl | (rename_i a b; exact Bool.or_comm ..) | skip
  · rename_i c a b
    show (hasOdd b || (hasOdd a || hasOdd c)) = (hasOdd c || (hasOdd a || hasOdd b))
    cases hasOdd a <;> cases hasOdd b <;> cases hasOdd c <;> rfl
theorem ks_gd {t : Tree} (h : isOdd t = false) (g : gd t) : gdL (ks t) := by
  cases t <;> first | cases h | skip
  · trivial
  · trivial
  · exact ⟨g.2, trivial⟩
  · exact ⟨g.2, g.1, trivial⟩
  · exact ⟨g.2, g.1, trivial⟩
  · exact ⟨g.2, g.1, trivial⟩
  · exact ⟨g.2.2, g.2.1, g.1, trivial⟩
  · exact ⟨g.2.2, g.2.1, trivial⟩
end Mine.L02
end

section
open PySem
set_option autoImplicit false
set_option maxRecDepth 100000
namespace Mine.L02
theorem ok_whole (d : Nat) (v : V) : CallOK G (d + 1) 55 [v] (.val (.bool (wholeV v))) := by
  cases v <;> exact call_go (n := 0) (tp := []) (b_is_whole d) rfl (b_is_whole_x d) rfl (by kernel_rfl) (P := True) (by kernel_rfl) trivial
theorem name_loop (d : Nat) (u : V) : ∀ (l : List Nat) (o : Option O), ∃ fl ρ', ForOK G d fi_is_name (.Name "sign" ⟨15,8,15,12⟩) (l_is_name_15 d).xs (signsL l) [some (.val u), o] fl ρ' ∧ ((l.all (letters.contains ·) = true ∧ fl = .next ∧ ∃ o', ρ' = [some (.val u), o']) ∨ (l.all (letters.contains ·) = false ∧ fl = .ret (.val (.bool false))))
  | [], o => ⟨_, _, for_nil, .inl ⟨rfl, rfl, o, rfl⟩⟩
  | c :: l, o => by
    cases hc : letters.contains c with
    | true =>
      obtain ⟨fl, ρ', h1, h2⟩ := name_loop d u l (some (.val (.str [c])))
      refine ⟨fl, ρ', for_go (i := 1) (v := .str [c]) (l := signsL l) (ρ := [some (.val u), o]) (ρ' := [some (.val u), some (.val (.str [c]))]) (tp := [.b false]) (by kernel_rfl) (by kernel_rfl) (P := (!letters.contains c) = false ∧ True) (by kernel_rfl) ⟨by rw [hc]; rfl, trivial⟩ h1, ?_⟩
      rw [List.all_cons, hc, Bool.true_and]; exact h2
    | false => exact ⟨_, _, for_ret (i := 1) (v := .str [c]) (l := signsL l) (ρ := [some (.val u), o]) (ρ' := [some (.val u), some (.val (.str [c]))]) (o' := .val (.bool false)) (tp := [.b true]) (by kernel_rfl) (by kernel_rfl) (P := (!letters.contains c) = true ∧ True) (by kernel_rfl) ⟨by rw [hc]; rfl, trivial⟩, .inr ⟨by rw [List.all_cons, hc]; rfl, rfl⟩⟩
theorem ok_name (d : Nat) (v : V) : CallOK G (d + 1) 48 [v] (.val (.bool (nmV v))) := by
  cases v with
  | str s =>
    show CallOK _ _ _ _ (.val (.bool (isName s)))
    unfold isName
    cases h1 : decide ((1 : Int) ≤ s.length) with
    | false => exact call_go (n := 1) (tp := [.b false, .b true]) (b_is_name d) rfl (b_is_name_x d) rfl (by kernel_rfl) (P := true = true ∧ decide ((1 : Int) ≤ s.length) = false ∧ True) (by kernel_rfl) ⟨rfl, h1, trivial⟩
    | true =>
      cases h2 : decide ((s.length : Int) ≤ 8) with
      | false => exact call_go (n := 1) (tp := [.b true, .b true]) (b_is_name d) rfl (b_is_name_x d) rfl (by kernel_rfl) (P := (!decide ((s.length : Int) ≤ 8)) = true ∧ decide ((1 : Int) ≤ s.length) = true ∧ True) (by kernel_rfl) ⟨by rw [h2]; rfl, h1, trivial⟩
      | true =>
        cases h3 : words.any (· == s) with
        | true => exact call_go (n := 1) (tp := [.b true, .b false, .b true]) (b_is_name d) rfl (b_is_name_x d) rfl (by kernel_rfl) (P := true = words.any (· == s) ∧ (!decide ((s.length : Int) ≤ 8)) = false ∧ decide ((1 : Int) ≤ s.length) = true ∧ True) (by kernel_rfl) ⟨h3.symm, by rw [h2]; rfl, h1, trivial⟩
        | false =>
          obtain ⟨fl, ρ', k1, k2⟩ := name_loop d (.str s) s none
          rcases k2 with ⟨q, rfl, o', rfl⟩ | ⟨q, rfl⟩
          · rw [q]
            exact call_go (n := 1) (tp := [.b true, .b false, .b false, .l .next [some (.val (.str s)), o']]) (b_is_name d) rfl (b_is_name_x d) rfl (by kernel_rfl) (P := ForOK G d fi_is_name (.Name "sign" ⟨15,8,15,12⟩) (l_is_name_15 d).xs (signsL s) [some (.val (.str s)), none] .next [some (.val (.str s)), o'] ∧ false = words.any (· == s) ∧ (!decide ((s.length : Int) ≤ 8)) = false ∧ decide ((1 : Int) ≤ s.length) = true ∧ True) (by kernel_rfl) ⟨k1, h3.symm, by rw [h2]; rfl, h1, trivial⟩
          · rw [q]
            exact call_go (n := 1) (tp := [.b true, .b false, .b false, .l (.ret (.val (.bool false))) ρ']) (b_is_name d) rfl (b_is_name_x d) rfl (by kernel_rfl) (P := ForOK G d fi_is_name (.Name "sign" ⟨15,8,15,12⟩) (l_is_name_15 d).xs (signsL s) [some (.val (.str s)), none] (.ret (.val (.bool false))) ρ' ∧ false = words.any (· == s) ∧ (!decide ((s.length : Int) ≤ 8)) = false ∧ decide ((1 : Int) ≤ s.length) = true ∧ True) (by kernel_rfl) ⟨k1, h3.symm, by rw [h2]; rfl, h1, trivial⟩
  | _ => exact call_go (n := 1) (tp := []) (b_is_name d) rfl (b_is_name_x d) rfl (by kernel_rfl) (P := True) (by kernel_rfl) trivial

theorem node_num (d : Nat) {v : V} : CallOK G (d + 2) 62 [.tup [.str z_num, v]] (.val (.bool (numV v))) := by
  cases v with
  | int i =>
    show CallOK _ _ _ _ (.val (.bool (decide (-great < i) && decide (i < great))))
    cases h : decide (-great < i) with
    | true => exact call_go (n := 0) (tp := [.b false, .b false, .b false, .r (.val (.bool true)), .b true]) (b_is_node (d + 1)) rfl (b_is_node_x (d + 1)) rfl (by kernel_rfl) (P := decide (-great < i) = true ∧ CallOK G (d + 1) 55 [.int i] (.val (.bool true)) ∧ (!(Int.ofNat 2 == Int.ofNat 2)) = false ∧ false = (!words.any (· == z_num)) ∧ (Int.ofNat 2 == 0) = false ∧ True) (by kernel_rfl) ⟨h, ok_whole d (.int i), rfl, rfl, rfl, trivial⟩
    | false => exact call_go (n := 0) (tp := [.b false, .b false, .b false, .r (.val (.bool true)), .b false]) (b_is_node (d + 1)) rfl (b_is_node_x (d + 1)) rfl (by kernel_rfl) (P := decide (-great < i) = false ∧ CallOK G (d + 1) 55 [.int i] (.val (.bool true)) ∧ (!(Int.ofNat 2 == Int.ofNat 2)) = false ∧ false = (!words.any (· == z_num)) ∧ (Int.ofNat 2 == 0) = false ∧ True) (by kernel_rfl) ⟨h, ok_whole d (.int i), rfl, rfl, rfl, trivial⟩

  | none => exact call_go (n := 0) (tp := [.b false, .b false, .b false, .r (.val (.bool false))]) (b_is_node (d + 1)) rfl (b_is_node_x (d + 1)) rfl (by kernel_rfl) (P := CallOK G (d + 1) 55 [.none] (.val (.bool false)) ∧ (!(Int.ofNat 2 == Int.ofNat 2)) = false ∧ false = (!words.any (· == z_num)) ∧ (Int.ofNat 2 == 0) = false ∧ True) (by kernel_rfl) ⟨ok_whole d .none, rfl, rfl, rfl, trivial⟩
  | bool b => exact call_go (n := 0) (tp := [.b false, .b false, .b false, .r (.val (.bool false))]) (b_is_node (d + 1)) rfl (b_is_node_x (d + 1)) rfl (by kernel_rfl) (P := CallOK G (d + 1) 55 [(.bool b)] (.val (.bool false)) ∧ (!(Int.ofNat 2 == Int.ofNat 2)) = false ∧ false = (!words.any (· == z_num)) ∧ (Int.ofNat 2 == 0) = false ∧ True) (by kernel_rfl) ⟨ok_whole d (.bool b), rfl, rfl, rfl, trivial⟩
  | str s => exact call_go (n := 0) (tp := [.b false, .b false, .b false, .r (.val (.bool false))]) (b_is_node (d + 1)) rfl (b_is_node_x (d + 1)) rfl (by kernel_rfl) (P := CallOK G (d + 1) 55 [(.str s)] (.val (.bool false)) ∧ (!(Int.ofNat 2 == Int.ofNat 2)) = false ∧ false = (!words.any (· == z_num)) ∧ (Int.ofNat 2 == 0) = false ∧ True) (by kernel_rfl) ⟨ok_whole d (.str s), rfl, rfl, rfl, trivial⟩
  | tup l => exact call_go (n := 0) (tp := [.b false, .b false, .b false, .r (.val (.bool false))]) (b_is_node (d + 1)) rfl (b_is_node_x (d + 1)) rfl (by kernel_rfl) (P := CallOK G (d + 1) 55 [(.tup l)] (.val (.bool false)) ∧ (!(Int.ofNat 2 == Int.ofNat 2)) = false ∧ false = (!words.any (· == z_num)) ∧ (Int.ofNat 2 == 0) = false ∧ True) (by kernel_rfl) ⟨ok_whole d (.tup l), rfl, rfl, rfl, trivial⟩
  | lst l => exact call_go (n := 0) (tp := [.b false, .b false, .b false, .r (.val (.bool false))]) (b_is_node (d + 1)) rfl (b_is_node_x (d + 1)) rfl (by kernel_rfl) (P := CallOK G (d + 1) 55 [(.lst l)] (.val (.bool false)) ∧ (!(Int.ofNat 2 == Int.ofNat 2)) = false ∧ false = (!words.any (· == z_num)) ∧ (Int.ofNat 2 == 0) = false ∧ True) (by kernel_rfl) ⟨ok_whole d (.lst l), rfl, rfl, rfl, trivial⟩
theorem node_name (d : Nat) {v : V} : CallOK G (d + 2) 62 [.tup [.str z_name, v]] (.val (.bool (nmV v))) :=
  call_go (n := 0) (tp := [.b false, .b false, .b false, .r (.val (.bool (nmV v)))]) (b_is_node (d + 1)) rfl (b_is_node_x (d + 1)) rfl (by kernel_rfl) (P := CallOK G (d + 1) 48 [v] (.val (.bool (nmV v))) ∧ (!(Int.ofNat 2 == Int.ofNat 2)) = false ∧ false = (!words.any (· == z_name)) ∧ (Int.ofNat 2 == 0) = false ∧ True) (by kernel_rfl) ⟨ok_name d v, rfl, rfl, rfl, trivial⟩
theorem node_fun (d : Nat) {v b : V} : CallOK G (d + 2) 62 [.tup [.str z_fun, v, b]] (.val (.bool (nmV v))) :=
  call_go (n := 0) (tp := [.b false, .b false, .b false, .r (.val (.bool (nmV v)))]) (b_is_node (d + 1)) rfl (b_is_node_x (d + 1)) rfl (by kernel_rfl) (P := CallOK G (d + 1) 48 [v] (.val (.bool (nmV v))) ∧ (!(Int.ofNat 3 == Int.ofNat 3)) = false ∧ false = (!words.any (· == z_fun)) ∧ (Int.ofNat 3 == 0) = false ∧ True) (by kernel_rfl) ⟨ok_name d v, rfl, rfl, rfl, trivial⟩
theorem node_let (d : Nat) {v a b : V} : CallOK G (d + 2) 62 [.tup [.str z_let, v, a, b]] (.val (.bool (nmV v))) :=
  call_go (n := 0) (tp := [.b false, .b false, .b false, .r (.val (.bool (nmV v)))]) (b_is_node (d + 1)) rfl (b_is_node_x (d + 1)) rfl (by kernel_rfl) (P := CallOK G (d + 1) 48 [v] (.val (.bool (nmV v))) ∧ (!(Int.ofNat 4 == Int.ofNat 4)) = false ∧ false = (!words.any (· == z_let)) ∧ (Int.ofNat 4 == 0) = false ∧ True) (by kernel_rfl) ⟨ok_name d v, rfl, rfl, rfl, trivial⟩
theorem node_call (d : Nat) {a b : V} : CallOK G (d + 2) 62 [.tup [.str z_call, a, b]] (.val (.bool true)) :=
  call_go (n := 0) (tp := [.b false, .b false, .b false]) (b_is_node (d + 1)) rfl (b_is_node_x (d + 1)) rfl (by kernel_rfl) (P := (!(Int.ofNat 3 == Int.ofNat 3)) = false ∧ false = (!words.any (· == z_call)) ∧ (Int.ofNat 3 == 0) = false ∧ True) (by kernel_rfl) ⟨rfl, rfl, rfl, trivial⟩
theorem node_plus (d : Nat) {a b : V} : CallOK G (d + 2) 62 [.tup [.str z_plus, a, b]] (.val (.bool true)) :=
  call_go (n := 0) (tp := [.b false, .b false, .b false]) (b_is_node (d + 1)) rfl (b_is_node_x (d + 1)) rfl (by kernel_rfl) (P := (!(Int.ofNat 3 == Int.ofNat 3)) = false ∧ false = (!words.any (· == z_plus)) ∧ (Int.ofNat 3 == 0) = false ∧ True) (by kernel_rfl) ⟨rfl, rfl, rfl, trivial⟩
theorem node_less (d : Nat) {a b : V} : CallOK G (d + 2) 62 [.tup [.str z_less, a, b]] (.val (.bool true)) :=
  call_go (n := 0) (tp := [.b false, .b false, .b false]) (b_is_node (d + 1)) rfl (b_is_node_x (d + 1)) rfl (by kernel_rfl) (P := (!(Int.ofNat 3 == Int.ofNat 3)) = false ∧ false = (!words.any (· == z_less)) ∧ (Int.ofNat 3 == 0) = false ∧ True) (by kernel_rfl) ⟨rfl, rfl, rfl, trivial⟩
theorem node_if (d : Nat) {a b c : V} : CallOK G (d + 2) 62 [.tup [.str z_if, a, b, c]] (.val (.bool true)) :=
  call_go (n := 0) (tp := [.b false, .b false, .b false]) (b_is_node (d + 1)) rfl (b_is_node_x (d + 1)) rfl (by kernel_rfl) (P := (!(Int.ofNat 4 == Int.ofNat 4)) = false ∧ false = (!words.any (· == z_if)) ∧ (Int.ofNat 4 == 0) = false ∧ True) (by kernel_rfl) ⟨rfl, rfl, rfl, trivial⟩
theorem ok_node (d : Nat) {t : Tree} (h : isOdd t = false) (g : gd t) : CallOK G (d + 2) 62 [tv t] (.val (.bool true)) := by
  cases t with
  | odd v => cases h
  | num i => have := node_num d (v := .int i); rwa [show numV (.int i) = true from g] at this
  | name x => have := node_name d (v := .str x); rwa [show nmV (.str x) = true from g] at this
  | fn x b => have := node_fun d (v := .str x) (b := tv b); rwa [show nmV (.str x) = true from g.1] at this
  | call a b => exact node_call d
  | plus a b => exact node_plus d
  | less a b => exact node_less d
  | ite c a b => exact node_if d
  | lt x e b => have := node_let d (v := .str x) (a := tv e) (b := tv b); rwa [show nmV (.str x) = true from g.1] at this
theorem node_len (d : Nat) {s : List Nat} {r : List V} {k : Int} (h1 : words.any (· == s) = true) (h2 : lens.lookup s = some k) (h3 : (((r.length + 1 : Nat) : Int) == k) = false) : CallOK G (d + 2) 62 [.tup (.str s :: r)] (.val (.bool false)) := by
  have h1 := h1
  simp only [words, List.any_cons, List.any_nil, Bool.or_false, Bool.or_eq_true, beq_iff_eq] at h1
  rcases h1 with rfl | rfl | rfl | rfl | rfl | rfl | rfl | rfl
  · obtain rfl : (2 : Int) = k := Option.some.inj (Eq.trans (by kernel_rfl) h2)
    exact call_go (n := 0) (tp := [.b false, .b false, .b true]) (b_is_node (d + 1)) rfl (b_is_node_x (d + 1)) rfl (by kernel_rfl) (P := (!(Int.ofNat (r.length + 1) == 2)) = true ∧ false = (!words.any (· == z_num)) ∧ (Int.ofNat (r.length + 1) == 0) = false ∧ True) (by kernel_rfl) ⟨by rw [show (Int.ofNat (r.length + 1) == 2) = false from h3]; rfl, rfl, beq_eq_false_iff_ne.mpr (by intro q; cases q), trivial⟩
  · obtain rfl : (2 : Int) = k := Option.some.inj (Eq.trans (by kernel_rfl) h2)
    exact call_go (n := 0) (tp := [.b false, .b false, .b true]) (b_is_node (d + 1)) rfl (b_is_node_x (d + 1)) rfl (by kernel_rfl) (P := (!(Int.ofNat (r.length + 1) == 2)) = true ∧ false = (!words.any (· == z_name)) ∧ (Int.ofNat (r.length + 1) == 0) = false ∧ True) (by kernel_rfl) ⟨by rw [show (Int.ofNat (r.length + 1) == 2) = false from h3]; rfl, rfl, beq_eq_false_iff_ne.mpr (by intro q; cases q), trivial⟩
  · obtain rfl : (3 : Int) = k := Option.some.inj (Eq.trans (by kernel_rfl) h2)
    exact call_go (n := 0) (tp := [.b false, .b false, .b true]) (b_is_node (d + 1)) rfl (b_is_node_x (d + 1)) rfl (by kernel_rfl) (P := (!(Int.ofNat (r.length + 1) == 3)) = true ∧ false = (!words.any (· == z_fun)) ∧ (Int.ofNat (r.length + 1) == 0) = false ∧ True) (by kernel_rfl) ⟨by rw [show (Int.ofNat (r.length + 1) == 3) = false from h3]; rfl, rfl, beq_eq_false_iff_ne.mpr (by intro q; cases q), trivial⟩
  · obtain rfl : (3 : Int) = k := Option.some.inj (Eq.trans (by kernel_rfl) h2)
    exact call_go (n := 0) (tp := [.b false, .b false, .b true]) (b_is_node (d + 1)) rfl (b_is_node_x (d + 1)) rfl (by kernel_rfl) (P := (!(Int.ofNat (r.length + 1) == 3)) = true ∧ false = (!words.any (· == z_call)) ∧ (Int.ofNat (r.length + 1) == 0) = false ∧ True) (by kernel_rfl) ⟨by rw [show (Int.ofNat (r.length + 1) == 3) = false from h3]; rfl, rfl, beq_eq_false_iff_ne.mpr (by intro q; cases q), trivial⟩
  · obtain rfl : (3 : Int) = k := Option.some.inj (Eq.trans (by kernel_rfl) h2)
    exact call_go (n := 0) (tp := [.b false, .b false, .b true]) (b_is_node (d + 1)) rfl (b_is_node_x (d + 1)) rfl (by kernel_rfl) (P := (!(Int.ofNat (r.length + 1) == 3)) = true ∧ false = (!words.any (· == z_plus)) ∧ (Int.ofNat (r.length + 1) == 0) = false ∧ True) (by kernel_rfl) ⟨by rw [show (Int.ofNat (r.length + 1) == 3) = false from h3]; rfl, rfl, beq_eq_false_iff_ne.mpr (by intro q; cases q), trivial⟩
  · obtain rfl : (3 : Int) = k := Option.some.inj (Eq.trans (by kernel_rfl) h2)
    exact call_go (n := 0) (tp := [.b false, .b false, .b true]) (b_is_node (d + 1)) rfl (b_is_node_x (d + 1)) rfl (by kernel_rfl) (P := (!(Int.ofNat (r.length + 1) == 3)) = true ∧ false = (!words.any (· == z_less)) ∧ (Int.ofNat (r.length + 1) == 0) = false ∧ True) (by kernel_rfl) ⟨by rw [show (Int.ofNat (r.length + 1) == 3) = false from h3]; rfl, rfl, beq_eq_false_iff_ne.mpr (by intro q; cases q), trivial⟩
  · obtain rfl : (4 : Int) = k := Option.some.inj (Eq.trans (by kernel_rfl) h2)
    exact call_go (n := 0) (tp := [.b false, .b false, .b true]) (b_is_node (d + 1)) rfl (b_is_node_x (d + 1)) rfl (by kernel_rfl) (P := (!(Int.ofNat (r.length + 1) == 4)) = true ∧ false = (!words.any (· == z_if)) ∧ (Int.ofNat (r.length + 1) == 0) = false ∧ True) (by kernel_rfl) ⟨by rw [show (Int.ofNat (r.length + 1) == 4) = false from h3]; rfl, rfl, beq_eq_false_iff_ne.mpr (by intro q; cases q), trivial⟩
  · obtain rfl : (4 : Int) = k := Option.some.inj (Eq.trans (by kernel_rfl) h2)
    exact call_go (n := 0) (tp := [.b false, .b false, .b true]) (b_is_node (d + 1)) rfl (b_is_node_x (d + 1)) rfl (by kernel_rfl) (P := (!(Int.ofNat (r.length + 1) == 4)) = true ∧ false = (!words.any (· == z_let)) ∧ (Int.ofNat (r.length + 1) == 0) = false ∧ True) (by kernel_rfl) ⟨by rw [show (Int.ofNat (r.length + 1) == 4) = false from h3]; rfl, rfl, beq_eq_false_iff_ne.mpr (by intro q; cases q), trivial⟩
theorem ok_bad (d : Nat) {v : V} (h : BadN v) : CallOK G (d + 2) 62 [v] (.val (.bool false)) := by
  cases h with
  | none => exact call_go (n := 0) (tp := []) (b_is_node (d + 1)) rfl (b_is_node_x (d + 1)) rfl (by kernel_rfl) (P := True) (by kernel_rfl) trivial
  | int i => exact call_go (n := 0) (tp := []) (b_is_node (d + 1)) rfl (b_is_node_x (d + 1)) rfl (by kernel_rfl) (P := True) (by kernel_rfl) trivial
  | str s => exact call_go (n := 0) (tp := []) (b_is_node (d + 1)) rfl (b_is_node_x (d + 1)) rfl (by kernel_rfl) (P := True) (by kernel_rfl) trivial
  | lst l => exact call_go (n := 0) (tp := []) (b_is_node (d + 1)) rfl (b_is_node_x (d + 1)) rfl (by kernel_rfl) (P := True) (by kernel_rfl) trivial
  | nil => exact call_go (n := 0) (tp := [.b true]) (b_is_node (d + 1)) rfl (b_is_node_x (d + 1)) rfl (by kernel_rfl) (P := (Int.ofNat 0 == 0) = true ∧ True) (by kernel_rfl) ⟨rfl, trivial⟩
  | head l r => exact call_go (n := 0) (tp := [.b false]) (b_is_node (d + 1)) rfl (b_is_node_x (d + 1)) rfl (by kernel_rfl) (P := (Int.ofNat (r.length + 1) == 0) = false ∧ True) (by kernel_rfl) ⟨beq_eq_false_iff_ne.mpr (by intro q; cases q), trivial⟩
  | @word s r h => exact call_go (n := 0) (tp := [.b false, .b true, .b true]) (b_is_node (d + 1)) rfl (b_is_node_x (d + 1)) rfl (by kernel_rfl) (P := true = true ∧ true = (!words.any (· == s)) ∧ (Int.ofNat (r.length + 1) == 0) = false ∧ True) (by kernel_rfl) ⟨rfl, by rw [h]; rfl, beq_eq_false_iff_ne.mpr (by intro q; cases q), trivial⟩
  | len h1 h2 h3 => exact node_len d h1 h2 h3
  | num h => exact h ▸ node_num d
  | name h => exact h ▸ node_name d
  | fn h => exact h ▸ node_fun d
  | lt h => exact h ▸ node_let d
theorem ok_parts (d : Nat) {t : Tree} (h : isOdd t = false) : CallOK G (d + 1) 69 [tv t] (.own ((ks t).map tv)) := by
  cases t with
  | odd v => cases h
  | num i => exact call_go (n := 0) (tp := []) (b_parts d) rfl (b_parts_x d) rfl (by kernel_rfl) (P := True) (by kernel_rfl) (by decide)
  | name x => exact call_go (n := 0) (tp := []) (b_parts d) rfl (b_parts_x d) rfl (by kernel_rfl) (P := True) (by kernel_rfl) (by decide)
  | fn x b => exact call_go (n := 0) (tp := []) (b_parts d) rfl (b_parts_x d) rfl (by kernel_rfl) (P := ((0 : Int) ≤ 2 ∧ (2 : Int) ≤ 1000000) ∧ True) (by kernel_rfl) (by decide)
  | call a b => exact call_go (n := 0) (tp := []) (b_parts d) rfl (b_parts_x d) rfl (by kernel_rfl) (P := ((0 : Int) ≤ 1 ∧ (1 : Int) ≤ 1000000) ∧ True) (by kernel_rfl) (by decide)
  | plus a b => exact call_go (n := 0) (tp := []) (b_parts d) rfl (b_parts_x d) rfl (by kernel_rfl) (P := ((0 : Int) ≤ 1 ∧ (1 : Int) ≤ 1000000) ∧ True) (by kernel_rfl) (by decide)
  | less a b => exact call_go (n := 0) (tp := []) (b_parts d) rfl (b_parts_x d) rfl (by kernel_rfl) (P := ((0 : Int) ≤ 1 ∧ (1 : Int) ≤ 1000000) ∧ True) (by kernel_rfl) (by decide)
  | ite c a b => exact call_go (n := 0) (tp := []) (b_parts d) rfl (b_parts_x d) rfl (by kernel_rfl) (P := ((0 : Int) ≤ 1 ∧ (1 : Int) ≤ 1000000) ∧ True) (by kernel_rfl) (by decide)
  | lt x e b => exact call_go (n := 0) (tp := []) (b_parts d) rfl (b_parts_x d) rfl (by kernel_rfl) (P := ((0 : Int) ≤ 2 ∧ (2 : Int) ≤ 1000000) ∧ True) (by kernel_rfl) (by decide)
end Mine.L02
end

section
open PySem
set_option autoImplicit false
set_option maxRecDepth 100000
namespace Mine.L02
section
variable {G : Gl} {d : Nat} {fi : FI} {c : T G d fi} {b : SL G d fi} {ρ ρ' ρ'' : Loc} {fl : Fl} {cN : Addr}
def Trn (c : T G d fi) (b : SL G d fi) (ρ ρ' : Loc) : Prop := ∃ tp, out (turn c b false ⟨ρ, tp, []⟩) = some (some .next, ρ', []) ∧ All (obs (turn c b false ⟨ρ, tp, []⟩))
theorem Trn.wh (h : Trn c b ρ ρ') (k : WhilOK G d fi c.x b.xs ρ' fl ρ'') : WhilOK G d fi c.x b.xs ρ fl ρ'' := by
  obtain ⟨tp, e, o⟩ := h; exact (turn_ok c b false).run e rfl o fl ρ'' k
theorem Trn.er (h : Trn c b ρ ρ') (k : WhErr G d fi cN c.x b.xs ρ') : WhErr G d fi cN c.x b.xs ρ := by
  obtain ⟨tp, e, o⟩ := h; exact (turn_er c b false).run e rfl o rfl k
theorem Trn.of {tp : List Tk} {P : Prop} (e : out (turn c b false ⟨ρ, tp, []⟩) = some (some .next, ρ', [])) (o : All (obs (turn c b false ⟨ρ, tp, []⟩)) = P) (p : P) : Trn c b ρ ρ' := ⟨tp, e, o ▸ p⟩
end
noncomputable abbrev nst (T : V) (K : List V) (m : Int) (x : Option O) : Loc := [some (.val T), some (.own K), some (.val (.int m)), x]
variable {d : Nat} {T : V}

theorem nt_turn {t : Tree} (h : isOdd t = false) (g : gd t) {K : List V} {m : Int} {x : Option O} (hK : K.length + 4 < room) (hm : decide (m + 1 > 400) = false) :
    Trn (c_need_tree_40 (d + 2)) (l_need_tree_40 (d + 2)) (nst T (tv t :: K) m x) (nst T ((ks t).map tv ++ K) (m + 1) (some (.val (tv t)))) := by
  have h1 := ok_node d h g
  have h2 := ok_parts (d + 1) h
  cases t with
  | odd v => cases h
  | num i => exact .of (tp := [.b false, .r (.val (.bool true)), .r (.own [])]) (by kernel_rfl) (P := (0 + K.length < room) ∧ CallOK G (d + 2) 69 [tv (.num i)] (.own []) ∧ CallOK G (d + 2) 62 [tv (.num i)] (.val (.bool true)) ∧ decide (m + 1 > 400) = false ∧ True) (by kernel_rfl) ⟨by omega, h2, h1, hm, trivial⟩
  | name x => exact .of (tp := [.b false, .r (.val (.bool true)), .r (.own [])]) (by kernel_rfl) (P := (0 + K.length < room) ∧ CallOK G (d + 2) 69 [tv (.name x)] (.own []) ∧ CallOK G (d + 2) 62 [tv (.name x)] (.val (.bool true)) ∧ decide (m + 1 > 400) = false ∧ True) (by kernel_rfl) ⟨by omega, h2, h1, hm, trivial⟩
  | fn x b => exact .of (tp := [.b false, .r (.val (.bool true)), .r (.own [tv b])]) (by kernel_rfl) (P := (1 + K.length < room) ∧ CallOK G (d + 2) 69 [tv (.fn x b)] (.own [tv b]) ∧ CallOK G (d + 2) 62 [tv (.fn x b)] (.val (.bool true)) ∧ decide (m + 1 > 400) = false ∧ True) (by kernel_rfl) ⟨by omega, h2, h1, hm, trivial⟩
  | call a b => exact .of (tp := [.b false, .r (.val (.bool true)), .r (.own [tv b, tv a])]) (by kernel_rfl) (P := (2 + K.length < room) ∧ CallOK G (d + 2) 69 [tv (.call a b)] (.own [tv b, tv a]) ∧ CallOK G (d + 2) 62 [tv (.call a b)] (.val (.bool true)) ∧ decide (m + 1 > 400) = false ∧ True) (by kernel_rfl) ⟨by omega, h2, h1, hm, trivial⟩
  | plus a b => exact .of (tp := [.b false, .r (.val (.bool true)), .r (.own [tv b, tv a])]) (by kernel_rfl) (P := (2 + K.length < room) ∧ CallOK G (d + 2) 69 [tv (.plus a b)] (.own [tv b, tv a]) ∧ CallOK G (d + 2) 62 [tv (.plus a b)] (.val (.bool true)) ∧ decide (m + 1 > 400) = false ∧ True) (by kernel_rfl) ⟨by omega, h2, h1, hm, trivial⟩
  | less a b => exact .of (tp := [.b false, .r (.val (.bool true)), .r (.own [tv b, tv a])]) (by kernel_rfl) (P := (2 + K.length < room) ∧ CallOK G (d + 2) 69 [tv (.less a b)] (.own [tv b, tv a]) ∧ CallOK G (d + 2) 62 [tv (.less a b)] (.val (.bool true)) ∧ decide (m + 1 > 400) = false ∧ True) (by kernel_rfl) ⟨by omega, h2, h1, hm, trivial⟩
  | ite c a b => exact .of (tp := [.b false, .r (.val (.bool true)), .r (.own [tv b, tv a, tv c])]) (by kernel_rfl) (P := (3 + K.length < room) ∧ CallOK G (d + 2) 69 [tv (.ite c a b)] (.own [tv b, tv a, tv c]) ∧ CallOK G (d + 2) 62 [tv (.ite c a b)] (.val (.bool true)) ∧ decide (m + 1 > 400) = false ∧ True) (by kernel_rfl) ⟨by omega, h2, h1, hm, trivial⟩
  | lt x e b => exact .of (tp := [.b false, .r (.val (.bool true)), .r (.own [tv b, tv e])]) (by kernel_rfl) (P := (2 + K.length < room) ∧ CallOK G (d + 2) 69 [tv (.lt x e b)] (.own [tv b, tv e]) ∧ CallOK G (d + 2) 62 [tv (.lt x e b)] (.val (.bool true)) ∧ decide (m + 1 > 400) = false ∧ True) (by kernel_rfl) ⟨by omega, h2, h1, hm, trivial⟩
theorem len_sz : ∀ ts : List Tree, ts.length ≤ szL ts
  | [] => Nat.le_refl _
  | t :: ts => by have := len_sz ts; have := sz_pos t; show ts.length + 1 ≤ sz t + szL ts; omega
theorem room_big : 100000 < room := by decide
theorem loop_ok : ∀ (n : Nat) (ts : List Tree) (m : Int) (x : Option O), gdL ts → oddL ts = false → szL ts ≤ n → (n : Int) + m = 400 → 0 ≤ m → ∃ m' x', WhilOK G (d + 2) fi_need_tree (c_need_tree_40 (d + 2)).x (l_need_tree_40 (d + 2)).xs (nst T (ts.map tv) m x) .next (nst T [] m' x') := by
  intro n
  induction n with
  | zero =>
    intro ts m x hg ho hs hm h0
    cases ts with
    | nil => exact ⟨m, x, whil_end false (tp := []) (by kernel_rfl) (P := True) (by kernel_rfl) trivial⟩
    | cons t ts => have := sz_pos t; have : szL (t :: ts) = sz t + szL ts := rfl; omega
  | succ n ih =>
    intro ts m x hg ho hs hm h0
    cases ts with
    | nil => exact ⟨m, x, whil_end false (tp := []) (by kernel_rfl) (P := True) (by kernel_rfl) trivial⟩
    | cons t ts =>
      have ho : (hasOdd t || oddL ts) = false := ho
      rw [Bool.or_eq_false_iff] at ho
      have ht : isOdd t = false := by cases t <;> first | rfl | cases ho.1
      have hz : szL (t :: ts) = sz t + szL ts := rfl
      have hk := ks_sz ht
      have hl := len_sz ts
      have hr := room_big
      obtain ⟨m', x', h⟩ := ih (ks t ++ ts) (m + 1) (some (.val (tv t))) (gdL_app (ks_gd ht hg.1) hg.2) (by rw [oddL_app, ks_odd ht, ho.1, ho.2]; rfl) (by rw [szL_app]; omega) (by omega) (by omega)
      rw [List.map_append] at h
      exact ⟨m', x', (nt_turn ht hg.1 (by rw [List.length_map]; omega) (decide_eq_false (by omega))).wh h⟩
theorem loop_er : ∀ (n : Nat) (ts : List Tree) (m : Int) (x : Option O), gdL ts → (oddL ts = true ∨ n < szL ts) → (n : Int) + m = 400 → (ts.length : Int) ≤ 3 * m + 1 → WhErr G (d + 2) fi_need_tree cN (c_need_tree_40 (d + 2)).x (l_need_tree_40 (d + 2)).xs (nst T (ts.map tv) m x) := by
  intro n
  induction n with
  | zero =>
    intro ts m x hg ho hm hl
    cases ts with
    | nil => rcases ho with ho | ho
             · cases ho
             · exact absurd ho (Nat.lt_irrefl _)
    | cons t ts =>
      have hb : decide (m + 1 > 400) = true := decide_eq_true (by omega)
      exact x_need_tree_40_x (d + 2) ▸ whe_now (c := c_need_tree_40 (d + 2)) (ρ' := nst T (ts.map tv) (m + 1) (some (.val (tv t)))) (x_need_tree_40 (d + 2)) false (tp := [.b true]) (by kernel_rfl) (P := decide (m + 1 > 400) = true ∧ True) (by kernel_rfl) ⟨hb, trivial⟩
  | succ n ih =>
    intro ts m x hg ho hm hl
    cases ts with
    | nil => rcases ho with ho | ho
             · cases ho
             · exact absurd ho (Nat.not_lt_zero _)
    | cons t ts =>
      have hb : decide (m + 1 > 400) = false := decide_eq_false (by omega)
      have hl : ((ts.length + 1 : Nat) : Int) ≤ 3 * m + 1 := hl
      cases ht : isOdd t with
      | true =>
        cases t <;> first | cases ht | skip
        rename_i v
        have g : BadN v := hg.1
        exact x_need_tree_40_x (d + 2) ▸ whe_now (c := c_need_tree_40 (d + 2)) (ρ' := nst T (ts.map tv) (m + 1) (some (.val v))) (x_need_tree_40 (d + 2)) false (tp := [.b false, .r (.val (.bool false))]) (by kernel_rfl) (P := CallOK G (d + 2) 62 [v] (.val (.bool false)) ∧ decide (m + 1 > 400) = false ∧ True) (by kernel_rfl) ⟨ok_bad d g, hb, trivial⟩
      | false =>
        have hz : szL (t :: ts) = sz t + szL ts := rfl
        have hk := ks_sz ht
        have hr := room_big
        have hkl : (ks t).length ≤ 3 := by cases t <;> simp [ks]
        have h := ih (ks t ++ ts) (m + 1) (some (.val (tv t))) (gdL_app (ks_gd ht hg.1) hg.2) (by
          rcases ho with ho | ho
          · exact .inl (by rw [oddL_app, ks_odd ht]; exact ho)
          · exact .inr (by rw [szL_app]; omega)) (by omega) (by rw [List.length_append]; omega)
        rw [List.map_append] at h
        exact (nt_turn ht hg.1 (by rw [List.length_map]; omega) hb).er h
theorem ok_need {t : Tree} (g : gd t) (ho : hasOdd t = false) (hs : sz t ≤ 400) : CallOK G (d + 3) 76 [tv t] (.val (tv t)) := by
  obtain ⟨m', x', h⟩ := loop_ok (d := d) (T := tv t) 400 [t] 0 none ⟨g, trivial⟩ (by show (hasOdd t || false) = false; rw [ho]; rfl) (by show sz t + 0 ≤ 400; omega) rfl (Int.le_refl _)
  exact call_go (n := 3) (tp := [.l .next (nst (tv t) [] m' x')]) (b_need_tree (d + 2)) rfl (b_need_tree_x (d + 2)) rfl (by kernel_rfl) (P := WhilOK G (d + 2) fi_need_tree (c_need_tree_40 (d + 2)).x (l_need_tree_40 (d + 2)).xs (nst (tv t) [tv t] 0 none) .next (nst (tv t) [] m' x') ∧ True) (by kernel_rfl) ⟨h, trivial⟩
theorem er_need {t : Tree} (g : gd t) (ho : hasOdd t = true ∨ 400 < sz t) : RCall G (d + 3) cN 76 [tv t] := by
  have h := loop_er (d := d) (T := tv t) 400 [t] 0 none ⟨g, trivial⟩ (by
    rcases ho with ho | ho
    · exact .inl (by show (hasOdd t || false) = true; rw [ho]; rfl)
    · exact .inr (by show 400 < sz t + 0; omega)) rfl (by show ((1 : Nat) : Int) ≤ 3 * 0 + 1; decide)
  exact rcall_go (n := 3) (ρ' := nst (tv t) [tv t] 0 none) (tp := []) (h_need_tree (d + 2)) rfl (h_need_tree_x (d + 2)) rfl (by kernel_rfl) (P := WhErr G (d + 2) fi_need_tree cN (c_need_tree_40 (d + 2)).x (l_need_tree_40 (d + 2)).xs (nst (tv t) [tv t] 0 none) ∧ True) (by kernel_rfl) ⟨h, trivial⟩

theorem ok_refused {t : Tree} (g : gd t) (ho : hasOdd t = true ∨ 400 < sz t) : WCall G (d + 4) 111 [tv t] :=
  refused_ok (n := 1) (f := fd__law_refused) (aN := 76) (cN := cN) (cM := cM) rfl rfl st__law_refused (by kernel_rfl) (by kernel_rfl) (by kernel_rfl) (fun C m => m.ref) (er_need g ho)
end Mine.L02
end

section
open PySem
set_option autoImplicit false
set_option maxRecDepth 100000
namespace Mine.L02
abbrev Pick (o : O) (i : Int) (r : O) : Prop := (subO o i).bind (fun v => some (O.val v)) = some r
theorem mod_cases (i : Int) (n : Nat) (h : 0 < n) : ∃ k, k < n ∧ i % (n : Int) = Int.ofNat k := by
  have h0 := Int.emod_nonneg i (show (n : Int) ≠ 0 by omega)
  have h1 := Int.emod_lt_of_pos i (show (0 : Int) < n by omega)
  exact ⟨(i % n).toNat, by omega, by show _ = ((i % n).toNat : Int); omega⟩
variable {d : Nat}
def plV (v : V) : Prop := @V.rec (fun _ => Prop) (fun _ => Prop) False (fun _ => False) (fun _ => True) (fun _ => True) (fun _ q => q) (fun _ _ => False) True (fun _ _ p q => p ∧ q) v
def plL (l : List V) : Prop := @V.rec_1 (fun _ => Prop) (fun _ => Prop) False (fun _ => False) (fun _ => True) (fun _ => True) (fun _ q => q) (fun _ _ => False) True (fun _ _ p q => p ∧ q) l
noncomputable def vsz (v : V) : Nat := @V.rec (fun _ => Nat) (fun _ => Nat) 1 (fun _ => 1) (fun _ => 1) (fun _ => 1) (fun _ q => q + 1) (fun _ q => q + 1) 0 (fun _ _ p q => p + q) v
noncomputable def vszL (l : List V) : Nat := @V.rec_1 (fun _ => Nat) (fun _ => Nat) 1 (fun _ => 1) (fun _ => 1) (fun _ => 1) (fun _ q => q + 1) (fun _ q => q + 1) 0 (fun _ _ p q => p + q) l
theorem plL_app : ∀ {a b : List V}, plL a → plL b → plL (a ++ b)
  | [], _, _, h => h
  | _ :: _, _, h, k => ⟨h.1, plL_app h.2 k⟩
theorem plL_rev : ∀ {a : List V}, plL a → plL a.reverse
  | [], h => h
  | v :: a, h => by rw [List.reverse_cons]; exact plL_app (plL_rev h.2) ⟨h.1, trivial⟩
theorem vszL_app : ∀ a b : List V, vszL (a ++ b) = vszL a + vszL b
  | [], b => (Nat.zero_add _).symm
  | v :: a, b => by show vsz v + vszL (a ++ b) = vsz v + vszL a + vszL b; rw [vszL_app a b, Nat.add_assoc]
theorem vszL_rev : ∀ a : List V, vszL a.reverse = vszL a
  | [] => rfl
  | v :: a => by rw [List.reverse_cons, vszL_app, vszL_rev a]; show vszL a + (vsz v + 0) = vsz v + vszL a; omega
theorem vsz_pos (v : V) : 1 ≤ vsz v := by cases v <;> first | exact Nat.le_refl _ | exact Nat.succ_le_succ (Nat.zero_le _)
theorem len_vsz : ∀ l : List V, l.length ≤ vszL l
  | [] => Nat.le_refl _
  | v :: l => by have := len_vsz l; have := vsz_pos v; show l.length + 1 ≤ vsz v + vszL l; omega
noncomputable abbrev pr (v : V) : V := .tup [v, v]
noncomputable abbrev sst (a b : V) (K : List V) (p k : Option O) : Loc := [some (.val a), some (.val b), some (.own K), p, k]
theorem same_for {a b : V} {K : List V} : ∀ (suf pre : List V) (x : Option O), ((pre ++ suf).length + K.length + 1 < room) → ∃ x', ForOK G d fi__law_same (.Name "_law_k" ⟨108,16,108,22⟩) (l__law_same_108 d).xs (rangeL (Int.ofNat pre.length) suf.length) (sst a b ((pre.map pr).reverse ++ K) (some (.val (pr (.tup (pre ++ suf))))) x) .next (sst a b (((pre ++ suf).map pr).reverse ++ K) (some (.val (pr (.tup (pre ++ suf))))) x')
  | [], pre, x, h => ⟨x, by rw [List.append_nil]; exact for_nil⟩
  | v :: suf, pre, x, h => by
    have e : pre ++ v :: suf = (pre ++ [v]) ++ suf := by simp
    have hl : (pre ++ [v]).length = pre.length + 1 := by simp
    obtain ⟨x', h2⟩ := same_for suf (pre ++ [v]) (some (.val (.int (Int.ofNat pre.length)))) (by rw [← e]; exact h)
    rw [hl, ← e] at h2
    have e2 : ((pre ++ [v]).map pr).reverse ++ K = pr v :: ((pre.map pr).reverse ++ K) := by simp
    rw [e2] at h2
    have hp : Pick (.val (.tup (pre ++ v :: suf))) (Int.ofNat pre.length) (.val v) := by
      show (((pre ++ v :: suf)[pre.length]?).bind _) = _
      simp
    have hlen : ((pre.map pr).reverse ++ K).length < room := by
      rw [List.length_append] at h; simp at h ⊢; omega
    exact ⟨x', for_go (i := 4) (v := .int (Int.ofNat pre.length)) (l := rangeL (Int.ofNat (pre.length + 1)) suf.length) (ρ' := sst a b (pr v :: ((pre.map pr).reverse ++ K)) (some (.val (pr (.tup (pre ++ v :: suf))))) (some (.val (.int (Int.ofNat pre.length))))) (tp := [.r (.val v), .r (.val v)]) (by kernel_rfl) (by kernel_rfl)
      (P := (((pre.map pr).reverse ++ K).length < room) ∧ Pick (.val (.tup (pre ++ v :: suf))) (Int.ofNat pre.length) (.val v) ∧ Pick (.val (.tup (pre ++ v :: suf))) (Int.ofNat pre.length) (.val v) ∧ True) (by kernel_rfl) ⟨hlen, hp, hp, trivial⟩ h2⟩

theorem same_loop {a b : V} : ∀ (n : Nat) (st : List V) (p k : Option O), plL st → vszL st ≤ n → n ≤ 10000 → ∃ p' k', WhilOK G d fi__law_same (c__law_same_103 d).x (l__law_same_103 d).xs (sst a b (st.map pr) p k) .next (sst a b [] p' k') := by
  intro n
  induction n with
  | zero =>
    intro st p k hp hs hn
    cases st with
    | nil => exact ⟨p, k, whil_end false (tp := []) (by kernel_rfl) (P := True) (by kernel_rfl) trivial⟩
    | cons v st => have := vsz_pos v; have : vszL (v :: st) = vsz v + vszL st := rfl; omega
  | succ n ih =>
    intro st p k hp hs hn
    cases st with
    | nil => exact ⟨p, k, whil_end false (tp := []) (by kernel_rfl) (P := True) (by kernel_rfl) trivial⟩
    | cons v st =>
      have hz : vszL (v :: st) = vsz v + vszL st := rfl
      have hr := room_big
      have hl := len_vsz st
      cases v with
      | none => exact hp.1.elim
      | bool t => exact hp.1.elim
      | lst l => exact hp.1.elim
      | int i =>
        have : vsz (.int i) = 1 := rfl
        obtain ⟨p', k', h⟩ := ih st (some (.val (pr (.int i)))) k hp.2 (by omega) (by omega)
        exact ⟨p', k', whil_go false (tp := []) (ρ' := sst a b (st.map pr) (some (.val (pr (.int i)))) k) (by kernel_rfl) (P := (V.int i = V.int i ∧ 0 ≤ 1900) ∧ (V.bool false = V.bool false ∧ 0 ≤ 1900) ∧ True) (by kernel_rfl) ⟨⟨rfl, by decide⟩, ⟨rfl, by decide⟩, trivial⟩ h⟩
      | str i =>
        have : vsz (.str i) = 1 := rfl
        obtain ⟨p', k', h⟩ := ih st (some (.val (pr (.str i)))) k hp.2 (by omega) (by omega)
        exact ⟨p', k', whil_go false (tp := []) (ρ' := sst a b (st.map pr) (some (.val (pr (.str i)))) k) (by kernel_rfl) (P := (V.str i = V.str i ∧ 0 ≤ 1900) ∧ (V.bool true = V.bool true ∧ 0 ≤ 1900) ∧ True) (by kernel_rfl) ⟨⟨rfl, by decide⟩, ⟨rfl, by decide⟩, trivial⟩ h⟩
      | tup l =>
        have e1 : vsz (.tup l) = vszL l + 1 := rfl
        have hl2 := len_vsz l
        obtain ⟨k2, hf⟩ := same_for (d := d) (a := a) (b := b) (K := st.map pr) l [] k (by simp; omega)
        obtain ⟨p', k', h⟩ := ih (l.reverse ++ st) (some (.val (pr (.tup l)))) k2 (plL_app (plL_rev hp.1) hp.2) (by rw [vszL_app, vszL_rev]; omega) (by omega)
        rw [List.map_append, List.map_reverse] at h
        exact ⟨p', k', whil_go false (tp := [.b false, .l .next (sst a b ((l.map pr).reverse ++ st.map pr) (some (.val (pr (.tup l)))) k2)]) (ρ' := sst a b ((l.map pr).reverse ++ st.map pr) (some (.val (pr (.tup l)))) k2) (by kernel_rfl)
          (P := ForOK G d fi__law_same (.Name "_law_k" ⟨108,16,108,22⟩) (l__law_same_108 d).xs (rangeL 0 (Int.ofNat l.length - 0).toNat) (sst a b (st.map pr) (some (.val (pr (.tup l)))) k) .next (sst a b ((l.map pr).reverse ++ st.map pr) (some (.val (pr (.tup l)))) k2) ∧ (Int.ofNat l.length).natAbs ≤ 1000000 ∧ (!(Int.ofNat l.length == Int.ofNat l.length)) = false ∧ True) (by kernel_rfl)
          ⟨by rw [show (Int.ofNat l.length - 0).toNat = l.length by show ((l.length : Int) - 0).toNat = _; omega]; exact hf, by show ((l.length : Int)).natAbs ≤ _; omega, by rw [beq_self_eq_true]; rfl, trivial⟩ h⟩
theorem pl_tv : ∀ t : Tree, hasOdd t = false → plV (tv t) ∧ vsz (tv t) ≤ 3 * sz t := by
  intro t
  induction t with
  | odd v => intro h; cases h
  | num i => intro _; exact ⟨⟨trivial, trivial, trivial⟩, Nat.le_refl _⟩
  | name x => intro _; exact ⟨⟨trivial, trivial, trivial⟩, Nat.le_refl _⟩
  | fn x b ib =>
    intro h
    obtain ⟨p, q⟩ := ib h
    refine ⟨⟨trivial, trivial, p, trivial⟩, ?_⟩
    show 1 + (1 + (vsz (tv b) + 0)) + 1 ≤ 3 * (sz b + 1); omega

  | call a b ia ib =>
    intro h
    rw [show hasOdd (.call a b) = (hasOdd a || hasOdd b) from rfl, Bool.or_eq_false_iff] at h
    obtain ⟨p, q⟩ := ia h.1
    obtain ⟨p', q'⟩ := ib h.2
    refine ⟨⟨trivial, p, p', trivial⟩, ?_⟩
    show 1 + (vsz (tv a) + (vsz (tv b) + 0)) + 1 ≤ 3 * (sz a + sz b + 1); omega
  | plus a b ia ib =>
    intro h
    rw [show hasOdd (.plus a b) = (hasOdd a || hasOdd b) from rfl, Bool.or_eq_false_iff] at h
    obtain ⟨p, q⟩ := ia h.1
    obtain ⟨p', q'⟩ := ib h.2
    refine ⟨⟨trivial, p, p', trivial⟩, ?_⟩
    show 1 + (vsz (tv a) + (vsz (tv b) + 0)) + 1 ≤ 3 * (sz a + sz b + 1); omega
  | less a b ia ib =>
    intro h
    rw [show hasOdd (.less a b) = (hasOdd a || hasOdd b) from rfl, Bool.or_eq_false_iff] at h
    obtain ⟨p, q⟩ := ia h.1
    obtain ⟨p', q'⟩ := ib h.2
    refine ⟨⟨trivial, p, p', trivial⟩, ?_⟩
    show 1 + (vsz (tv a) + (vsz (tv b) + 0)) + 1 ≤ 3 * (sz a + sz b + 1); omega
  | ite c a b ic ia ib =>
    intro h
    rw [show hasOdd (.ite c a b) = (hasOdd c || (hasOdd a || hasOdd b)) from rfl, Bool.or_eq_false_iff, Bool.or_eq_false_iff] at h
    obtain ⟨p0, q0⟩ := ic h.1
    obtain ⟨p, q⟩ := ia h.2.1
    obtain ⟨p', q'⟩ := ib h.2.2
    refine ⟨⟨trivial, p0, p, p', trivial⟩, ?_⟩
    show 1 + (vsz (tv c) + (vsz (tv a) + (vsz (tv b) + 0))) + 1 ≤ 3 * (sz c + sz a + sz b + 1); omega
  | lt x a b ia ib =>
    intro h
    rw [show hasOdd (.lt x a b) = (hasOdd a || hasOdd b) from rfl, Bool.or_eq_false_iff] at h
    obtain ⟨p, q⟩ := ia h.1
    obtain ⟨p', q'⟩ := ib h.2
    refine ⟨⟨trivial, trivial, p, p', trivial⟩, ?_⟩
    show 1 + (1 + (vsz (tv a) + (vsz (tv b) + 0))) + 1 ≤ 3 * (sz a + sz b + 1); omega
theorem ok_same {t : Tree} (h : hasOdd t = false) (hs : sz t ≤ 400) : CallOK G (d + 1) 137 [tv t, tv t] (.val (.bool true)) := by
  obtain ⟨p, q⟩ := pl_tv t h
  obtain ⟨p', k', hw⟩ := same_loop (d := d) (a := tv t) (b := tv t) 10000 [tv t] none none ⟨p, trivial⟩ (by show vsz (tv t) + 0 ≤ _; omega) (Nat.le_refl _)
  exact call_go (n := 3) (tp := [.l .next (sst (tv t) (tv t) [] p' k')]) (b__law_same d) rfl (b__law_same_x d) rfl (by kernel_rfl) (P := WhilOK G d fi__law_same (c__law_same_103 d).x (l__law_same_103 d).xs (sst (tv t) (tv t) [pr (tv t)] none none) .next (sst (tv t) (tv t) [] p' k') ∧ True) (by kernel_rfl) ⟨hw, trivial⟩
end Mine.L02
end

section
open PySem
set_option autoImplicit false
set_option maxRecDepth 100000
namespace Mine.L02
variable {d : Nat}
noncomputable def deepT : Nat → Tree → Tree
  | 0, t => t
  | n + 1, t => deepT n (.fn z_f t)
theorem deep_ok : ∀ (n : Nat) (t : Tree), sz (deepT n t) = n + sz t ∧ hasOdd (deepT n t) = hasOdd t ∧ (gd t → gd (deepT n t))
  | 0, t => ⟨(Nat.zero_add _).symm, rfl, id⟩
  | n + 1, t => by
    obtain ⟨h1, h2, h3⟩ := deep_ok n (.fn z_f t)
    have : sz (.fn z_f t) = sz t + 1 := rfl
    exact ⟨by show sz (deepT n (.fn z_f t)) = _; omega, h2, fun g => h3 ⟨by kernel_rfl, g⟩⟩
theorem dp_for {m : Int} : ∀ (n : Nat) (a : Int) (t : Tree) (x : Option O), ∃ x', ForOK G d fi__law_deep (.Name "_law_k" ⟨84,8,84,14⟩) (l__law_deep_84 d).xs (rangeL a n) [some (.val (.int m)), some (.val (tv t)), x] .next [some (.val (.int m)), some (.val (tv (deepT n t))), x']
  | 0, a, t, x => ⟨x, for_nil⟩
  | n + 1, a, t, x => by
    obtain ⟨x', h⟩ := dp_for n (a + 1) (.fn z_f t) (some (.val (.int a)))
    exact ⟨x', for_go (i := 2) (v := .int a) (l := rangeL (a + 1) n) (ρ' := [some (.val (.int m)), some (.val (tv (.fn z_f t))), some (.val (.int a))]) (tp := []) (by kernel_rfl) (by kernel_rfl) (P := True) (by kernel_rfl) trivial h⟩
theorem ok_deep {m : Int} (h : 1 ≤ m) (h2 : m ≤ 1000) : CallOK G (d + 1) 118 [.int m] (.val (tv (deepT (m - 1).toNat (.num m)))) := by
  obtain ⟨x', hf⟩ := dp_for (d := d) (m := m) (m - 1 - 0).toNat 0 (.num m) none
  have e : (m - 1 - 0).toNat = (m - 1).toNat := by omega
  rw [e] at hf
  exact call_go (n := 2) (tp := [.l .next [some (.val (.int m)), some (.val (tv (deepT (m - 1).toNat (.num m)))), x']]) (b__law_deep d) rfl (b__law_deep_x d) rfl (by kernel_rfl)
    (P := ForOK G d fi__law_deep (.Name "_law_k" ⟨84,8,84,14⟩) (l__law_deep_84 d).xs (rangeL 0 (m - 1 - 0).toNat) [some (.val (.int m)), some (.val (tv (.num m))), none] .next [some (.val (.int m)), some (.val (tv (deepT (m - 1).toNat (.num m)))), x'] ∧ (m - 1).natAbs ≤ 1000000 ∧ True) (by kernel_rfl) ⟨by rw [e]; exact hf, by omega, trivial⟩
noncomputable def twoN (k : Nat) (a b : Tree) : Tree := Nat.casesOn k (.plus a b) fun k => Nat.casesOn k (.call a b) fun k => Nat.casesOn k (.less a b) fun _ => .lt z_v a b
noncomputable def twoT (k : Int) (a b : Tree) : Tree := twoN (k % 4).toNat a b
theorem two_ok (k : Int) (a b : Tree) : sz (twoT k a b) = sz a + sz b + 1 ∧ hasOdd (twoT k a b) = (hasOdd a || hasOdd b) ∧ (gd a → gd b → gd (twoT k a b)) := by
  unfold twoT
  rcases (k % 4).toNat with _ | _ | _ | n
  · exact ⟨rfl, rfl, fun x y => ⟨x, y⟩⟩
  · exact ⟨rfl, rfl, fun x y => ⟨x, y⟩⟩
  · exact ⟨rfl, rfl, fun x y => ⟨x, y⟩⟩
  · exact ⟨rfl, rfl, fun x y => ⟨by kernel_rfl, x, y⟩⟩
theorem ok_two (k : Int) (a b : Tree) : CallOK G (d + 1) 125 [.int (k % 4), tv a, tv b] (.val (tv (twoT k a b))) := by
  obtain ⟨r, hr, e⟩ := mod_cases k 4 (by decide)
  have e : k % 4 = Int.ofNat r := e
  unfold twoT
  rw [e, show (Int.ofNat r).toNat = r from rfl]
  rcases r with _ | _ | _ | _ | n

  · exact call_go (n := 0) (tp := [.b false, .r (.val (.str z_plus))]) (b__law_two d) rfl (b__law_two_x d) rfl (by kernel_rfl) (P := Pick (.val (.lst [.str z_plus, .str z_call, .str z_less])) (Int.ofNat 0) (.val (.str z_plus)) ∧ (Int.ofNat 0 == 3) = false ∧ True) (by kernel_rfl) ⟨rfl, rfl, trivial⟩
  · exact call_go (n := 0) (tp := [.b false, .r (.val (.str z_call))]) (b__law_two d) rfl (b__law_two_x d) rfl (by kernel_rfl) (P := Pick (.val (.lst [.str z_plus, .str z_call, .str z_less])) (Int.ofNat 1) (.val (.str z_call)) ∧ (Int.ofNat 1 == 3) = false ∧ True) (by kernel_rfl) ⟨rfl, rfl, trivial⟩
  · exact call_go (n := 0) (tp := [.b false, .r (.val (.str z_less))]) (b__law_two d) rfl (b__law_two_x d) rfl (by kernel_rfl) (P := Pick (.val (.lst [.str z_plus, .str z_call, .str z_less])) (Int.ofNat 2) (.val (.str z_less)) ∧ (Int.ofNat 2 == 3) = false ∧ True) (by kernel_rfl) ⟨rfl, rfl, trivial⟩
  · exact call_go (n := 0) (tp := [.b true]) (b__law_two d) rfl (b__law_two_x d) rfl (by kernel_rfl) (P := (Int.ofNat 3 == 3) = true ∧ True) (by kernel_rfl) ⟨rfl, trivial⟩
  · omega
noncomputable def numsT : Nat → Int → List Tree
  | 0, _ => []
  | n + 1, a => .num (a % 3) :: numsT n (a + 1)
theorem nums_ok : ∀ (n : Nat) (a : Int), szL (numsT n a) = n ∧ (numsT n a).length = n ∧ oddL (numsT n a) = false ∧ gdL (numsT n a)
  | 0, a => ⟨rfl, rfl, rfl, trivial⟩
  | n + 1, a => by
    obtain ⟨h1, h2, h3, h4⟩ := nums_ok n (a + 1)
    have hb := Int.emod_nonneg a (show (3 : Int) ≠ 0 by decide)
    have hc := Int.emod_lt_of_pos a (show (0 : Int) < 3 by decide)
    refine ⟨by show 1 + szL (numsT n (a + 1)) = _; omega, by show (numsT n (a + 1)).length + 1 = _; omega, h3, ?_, h4⟩
    show (decide (-great < a % 3) && decide (a % 3 < great)) = true
    rw [Bool.and_eq_true, decide_eq_true_eq, decide_eq_true_eq]
    unfold great
    omega
noncomputable abbrev wst (m : Int) (r j : Option O) : Loc := [some (.val (.int m)), r, j, none]
theorem wd_nums {m : Int} : ∀ (n : Nat) (a : Int), CompL G d (fi__law_wide.inner s__law_wide_92_15 "_law_k" 3) (e__law_wide_92_15 d).x 3 ((shr (wst m none none)).set 3 none) (rangeL a n) ((numsT n a).map tv)
  | 0, a => comp_nil
  | n + 1, a => comp_go (v := .int a) (l := rangeL (a + 1) n) (o := .val (tv (.num (a % 3)))) (tp := []) (by kernel_rfl) (P := (0 : Int) < 3 ∧ True) (by kernel_rfl) ⟨by decide, trivial⟩ (wd_nums n (a + 1))
noncomputable def joinT : Int → List Tree → List Tree
  | k, a :: b :: r => twoT (k / 2) a b :: joinT (k + 2) r
  | _, [_] => []
  | _, [] => []
noncomputable def stepT : Int → List Tree → List Tree
  | k, a :: b :: r => twoT (k / 2) a b :: stepT (k + 2) r
  | _, [a] => [a]
  | _, [] => []
theorem step_ok : ∀ (n : Nat) (l : List Tree) (k : Int), l.length ≤ n → szL (stepT k l) + (stepT k l).length = szL l + l.length ∧ (stepT k l).length = (l.length + 1) / 2 ∧ (oddL l = false → oddL (stepT k l) = false) ∧ (gdL l → gdL (stepT k l)) := by
  intro n
  induction n with
  | zero => intro l k h; cases l with
    | nil => exact ⟨rfl, rfl, id, id⟩
    | cons a l => simp at h
  | succ n ih =>
    intro l k h
    match l, h with
    | [], _ => exact ⟨rfl, rfl, id, id⟩
    | [a], _ => exact ⟨rfl, by simp [stepT], id, id⟩
    | a :: b :: r, h =>
      obtain ⟨h1, h2, h3, h4⟩ := ih r (k + 2) (by simp at h; omega)
      obtain ⟨t1, t2, t3⟩ := two_ok (k / 2) a b
      refine ⟨?_, ?_, fun q => ?_, fun q => ⟨t3 q.1 q.2.1, h4 q.2.2⟩⟩
      · show sz (twoT (k / 2) a b) + szL (stepT (k + 2) r) + ((stepT (k + 2) r).length + 1) = sz a + (sz b + szL r) + (r.length + 1 + 1); omega
      · show (stepT (k + 2) r).length + 1 = (r.length + 1 + 1 + 1) / 2; omega
      · have q : (hasOdd a || (hasOdd b || oddL r)) = false := q
        rw [Bool.or_eq_false_iff, Bool.or_eq_false_iff] at q
        show (hasOdd (twoT (k / 2) a b) || oddL (stepT (k + 2) r)) = false
        rw [t2, q.1, q.2.1, h3 q.2.2]; rfl

theorem pick_at {l : List V} {pre suf : List Tree} {t : Tree} (h : l = (pre ++ t :: suf).map tv) : Pick (.val (.lst l)) (Int.ofNat pre.length) (.val (tv t)) := by
  subst h
  show ((((pre ++ t :: suf).map tv)[pre.length]?).bind _) = _
  simp
theorem wd_join {m : Int} {l : List V} {j : Option O} : ∀ (n : Nat) (pre suf : List Tree), suf.length ≤ n → l = (pre ++ suf).map tv → CompL G (d + 1) (fi__law_wide.inner s__law_wide_94_22 "_law_k" 3) (e__law_wide_94_22 (d + 1)).x 3 ((shr (wst m (some (.val (.lst l))) j)).set 3 none) (range2L (Int.ofNat pre.length) (suf.length / 2)) ((joinT (Int.ofNat pre.length) suf).map tv) := by
  intro n
  induction n with
  | zero => intro pre suf h _; cases suf with
    | nil => exact comp_nil
    | cons a suf => simp at h
  | succ n ih =>
    intro pre suf h hl
    match suf, h, hl with
    | [], _, _ => exact comp_nil
    | [a], _, _ => rw [show [a].length / 2 = 0 by simp]; exact comp_nil
    | a :: b :: r, h, hl =>
      have e : pre ++ a :: b :: r = (pre ++ [a, b]) ++ r := by simp
      have e2 : pre ++ a :: b :: r = (pre ++ [a]) ++ b :: r := by simp
      have h1 := pick_at hl
      have h2 := pick_at (e2 ▸ hl : l = ((pre ++ [a]) ++ b :: r).map tv)
      rw [show (pre ++ [a]).length = pre.length + 1 by simp] at h2
      have h3 := ih (pre ++ [a, b]) r (by simp at h; omega) (e ▸ hl)
      rw [show (pre ++ [a, b]).length = pre.length + 2 by simp] at h3
      have e4 : (a :: b :: r).length / 2 = r.length / 2 + 1 := by show (r.length + 1 + 1) / 2 = _; omega
      rw [e4]
      exact comp_go (v := .int (Int.ofNat pre.length)) (l := range2L (Int.ofNat (pre.length + 2)) (r.length / 2)) (o := .val (tv (twoT (Int.ofNat pre.length / 2) a b))) (tp := [.r (.val (tv a)), .r (.val (tv b)), .r (.val (tv (twoT (Int.ofNat pre.length / 2) a b)))]) (by kernel_rfl)
        (P := CallOK G (d + 1) 125 [.int (Int.ofNat pre.length / 2 % 4), tv a, tv b] (.val (tv (twoT (Int.ofNat pre.length / 2) a b))) ∧ Pick (.val (.lst l)) (Int.ofNat (pre.length + 1)) (.val (tv b)) ∧ Pick (.val (.lst l)) (Int.ofNat pre.length) (.val (tv a)) ∧ (0 : Int) < 4 ∧ ((0 : Int) < 2 ∧ (2 : Int) < 2 ^ 29) ∧ True) (by kernel_rfl) ⟨ok_two _ a b, h2, h1, by decide, by decide, trivial⟩ h3
theorem join_step : ∀ (n : Nat) (l : List Tree) (k : Int), l.length ≤ n → stepT k l = joinT k l ++ (if l.length % 2 = 1 then l.drop (l.length - 1) else []) := by
  intro n
  induction n with
  | zero => intro l k h; cases l with
    | nil => rfl
    | cons a l => simp at h
  | succ n ih =>
    intro l k h
    match l, h with
    | [], _ => rfl
    | [a], _ => rfl
    | a :: b :: r, h =>
      show twoT (k / 2) a b :: stepT (k + 2) r = twoT (k / 2) a b :: (joinT (k + 2) r ++ _)
      rw [ih r (k + 2) (by simp at h; omega)]
      congr 2
      have : (a :: b :: r).length % 2 = r.length % 2 := by show (r.length + 1 + 1) % 2 = _; omega
      rw [this]
      split
      · rename_i q
        have : (a :: b :: r).length - 1 = (r.length - 1) + 1 + 1 := by show r.length + 1 + 1 - 1 = _; omega
        rw [this, List.drop_succ_cons, List.drop_succ_cons]
      · rfl

end Mine.L02
end

section
open PySem
set_option autoImplicit false
set_option maxRecDepth 100000
namespace Mine.L02
variable {d : Nat}
theorem range2_len : ∀ (n : Nat) (a : Int), (range2L a n).length = n
  | 0, _ => rfl
  | n + 1, a => congrArg (· + 1) (range2_len n (a + 2))
abbrev WD (d : Nat) (m : Int) (r j : Option O) (fl : Fl) (ρ : Loc) : Prop := WhilOK G d fi__law_wide (c__law_wide_93 d).x (l__law_wide_93 d).xs (wst m r j) fl ρ
theorem last_pick {L : List Tree} {l : List V} (hl : l = L.map tv) (h : 1 ≤ L.length) : ∃ t, L.drop (L.length - 1) = [t] ∧ Pick (.val (.lst l)) (Int.negSucc 0) (.val (tv t)) := by
  subst hl
  obtain ⟨A, t, rfl⟩ : ∃ A t, L = A ++ [t] := by
    cases q : L.reverse with
    | nil => have := congrArg List.length q; rw [List.length_reverse] at this; simp at this; simp [this] at h
    | cons t A => exact ⟨A.reverse, t, by rw [← List.reverse_reverse L, q, List.reverse_cons]⟩
  refine ⟨t, by simp, ?_⟩
  show ((((A ++ [t]).map tv).reverse[0]?).bind _) = _
  simp
theorem wd_turn {m : Int} {l : List V} {L : List Tree} {s0 : O} {j : Option O} (hs : s0 = .val (.lst l) ∨ ∃ r, s0 = .own r ∧ l = r.reverse) (hl : l = L.map tv) (h2 : 2 ≤ L.length) (h3 : L.length ≤ 1000) {fl : Fl} {ρ : Loc}
    (k : ∀ l', l' = (stepT 0 L).map tv → WD (d + 1) m (some (.val (.lst l'))) (some (.val (.lst l'))) fl ρ) : WD (d + 1) m (some s0) j fl ρ := by
  have hn : Int.ofNat l.length = (L.length : Int) := by rw [hl, List.length_map]; rfl
  rcases hs with rfl | ⟨r, rfl, rfl⟩
  · skip
    have he : ((Int.ofNat (l).length - 1).toNat + 1) / 2 = L.length / 2 := by rw [hn]; omega
    have hc : CompL G (d + 1) (fi__law_wide.inner s__law_wide_94_22 "_law_k" 3) (e__law_wide_94_22 (d + 1)).x 3 ((shr (wst m (some (.val (.lst l))) j)).set 3 none) (range2L 0 (((Int.ofNat (l).length - 1).toNat + 1) / 2)) ((joinT 0 L).map tv) := by rw [he]; exact wd_join L.length [] L (Nat.le_refl _) hl
    have hd : decide (Int.ofNat (l).length > 1) = true := decide_eq_true (by omega)
    cases hp : (Int.ofNat (l).length % 2 == 1) with
    | false =>
      have hz : ¬ L.length % 2 = 1 := by rw [beq_eq_false_iff_ne] at hp; omega
      refine whil_go true (tp := [.b true, .vs ((joinT 0 L).map tv), .b false]) (ρ' := wst m (some (.val (.lst ((joinT 0 L).map tv).reverse.reverse))) (some (.val (.lst ((joinT 0 L).map tv).reverse.reverse)))) (by kernel_rfl)
        (P := (Int.ofNat (l).length % 2 == 1) = false ∧ (0 : Int) < 2 ∧ CompT G (d + 1) (fi__law_wide.inner s__law_wide_94_22 "_law_k" 3) [] (e__law_wide_94_22 (d + 1)).x 3 (range2L 0 (((Int.ofNat (l).length - 1).toNat + 1) / 2)) (wst m (some (.val (.lst l))) j) ((joinT 0 L).map tv) ∧ ((0 : Int) = 0 ∧ (0 : Int) ≤ Int.ofNat (l).length - 1 ∧ Int.ofNat (l).length - 1 ≤ 1000000 ∧ (2 : Int) = 2) ∧ decide (Int.ofNat (l).length > 1) = true ∧ True) (by kernel_rfl) ⟨hp, by decide, ⟨hc, by rw [range2_len, he]; have := room_big; omega⟩, ⟨rfl, by omega, by omega, rfl⟩, hd, trivial⟩ (k _ ?_)
      rw [List.reverse_reverse, join_step L.length L 0 (Nat.le_refl _), if_neg hz, List.append_nil]
    | true =>
      have hz : L.length % 2 = 1 := by rw [beq_iff_eq] at hp; omega
      obtain ⟨t, ht, hk⟩ := last_pick hl (by omega)
      refine whil_go true (tp := [.b true, .vs ((joinT 0 L).map tv), .b true, .r (.val (tv t))]) (ρ' := wst m (some (.val (.lst (tv t :: ((joinT 0 L).map tv).reverse).reverse))) (some (.val (.lst (tv t :: ((joinT 0 L).map tv).reverse).reverse)))) (by kernel_rfl)
        (P := (((joinT 0 L).map tv).reverse.length < room) ∧ Pick (.val (.lst l)) (Int.negSucc 0) (.val (tv t)) ∧ (Int.ofNat (l).length % 2 == 1) = true ∧ (0 : Int) < 2 ∧ CompT G (d + 1) (fi__law_wide.inner s__law_wide_94_22 "_law_k" 3) [] (e__law_wide_94_22 (d + 1)).x 3 (range2L 0 (((Int.ofNat (l).length - 1).toNat + 1) / 2)) (wst m (some (.val (.lst l))) j) ((joinT 0 L).map tv) ∧ ((0 : Int) = 0 ∧ (0 : Int) ≤ Int.ofNat (l).length - 1 ∧ Int.ofNat (l).length - 1 ≤ 1000000 ∧ (2 : Int) = 2) ∧ decide (Int.ofNat (l).length > 1) = true ∧ True) (by kernel_rfl) ⟨?_, hk, hp, by decide, ⟨hc, by rw [range2_len, he]; have := room_big; omega⟩, ⟨rfl, by omega, by omega, rfl⟩, hd, trivial⟩ (k _ ?_)
      · have := (step_ok L.length L 0 (Nat.le_refl _)).2.1
        rw [join_step L.length L 0 (Nat.le_refl _), List.length_append] at this
        have hr := room_big
        rw [List.length_reverse, List.length_map]; omega
      · rw [List.reverse_cons, List.reverse_reverse, join_step L.length L 0 (Nat.le_refl _), if_pos hz, ht, List.map_append]; rfl
  · skip
    have he : ((Int.ofNat (r.reverse).length - 1).toNat + 1) / 2 = L.length / 2 := by rw [hn]; omega
    have hc : CompL G (d + 1) (fi__law_wide.inner s__law_wide_94_22 "_law_k" 3) (e__law_wide_94_22 (d + 1)).x 3 ((shr (wst m (some (.val (.lst r.reverse))) j)).set 3 none) (range2L 0 (((Int.ofNat (r.reverse).length - 1).toNat + 1) / 2)) ((joinT 0 L).map tv) := by rw [he]; exact wd_join L.length [] L (Nat.le_refl _) hl
    have hd : decide (Int.ofNat (r.reverse).length > 1) = true := decide_eq_true (by omega)
    cases hp : (Int.ofNat (r.reverse).length % 2 == 1) with
    | false =>
      have hz : ¬ L.length % 2 = 1 := by rw [beq_eq_false_iff_ne] at hp; omega
      refine whil_go true (tp := [.b true, .vs ((joinT 0 L).map tv), .b false]) (ρ' := wst m (some (.val (.lst ((joinT 0 L).map tv).reverse.reverse))) (some (.val (.lst ((joinT 0 L).map tv).reverse.reverse)))) (by kernel_rfl)
        (P := (Int.ofNat (r.reverse).length % 2 == 1) = false ∧ (0 : Int) < 2 ∧ CompT G (d + 1) (fi__law_wide.inner s__law_wide_94_22 "_law_k" 3) [] (e__law_wide_94_22 (d + 1)).x 3 (range2L 0 (((Int.ofNat (r.reverse).length - 1).toNat + 1) / 2)) (wst m (some (.val (.lst r.reverse))) j) ((joinT 0 L).map tv) ∧ ((0 : Int) = 0 ∧ (0 : Int) ≤ Int.ofNat (r.reverse).length - 1 ∧ Int.ofNat (r.reverse).length - 1 ≤ 1000000 ∧ (2 : Int) = 2) ∧ decide (Int.ofNat (r.reverse).length > 1) = true ∧ True) (by kernel_rfl) ⟨hp, by decide, ⟨hc, by rw [range2_len, he]; have := room_big; omega⟩, ⟨rfl, by omega, by omega, rfl⟩, hd, trivial⟩ (k _ ?_)
      rw [List.reverse_reverse, join_step L.length L 0 (Nat.le_refl _), if_neg hz, List.append_nil]
    | true =>
      have hz : L.length % 2 = 1 := by rw [beq_iff_eq] at hp; omega
      obtain ⟨t, ht, hk⟩ := last_pick hl (by omega)
      refine whil_go true (tp := [.b true, .vs ((joinT 0 L).map tv), .b true, .r (.val (tv t))]) (ρ' := wst m (some (.val (.lst (tv t :: ((joinT 0 L).map tv).reverse).reverse))) (some (.val (.lst (tv t :: ((joinT 0 L).map tv).reverse).reverse)))) (by kernel_rfl)
        (P := (((joinT 0 L).map tv).reverse.length < room) ∧ Pick (.val (.lst r.reverse)) (Int.negSucc 0) (.val (tv t)) ∧ (Int.ofNat (r.reverse).length % 2 == 1) = true ∧ (0 : Int) < 2 ∧ CompT G (d + 1) (fi__law_wide.inner s__law_wide_94_22 "_law_k" 3) [] (e__law_wide_94_22 (d + 1)).x 3 (range2L 0 (((Int.ofNat (r.reverse).length - 1).toNat + 1) / 2)) (wst m (some (.val (.lst r.reverse))) j) ((joinT 0 L).map tv) ∧ ((0 : Int) = 0 ∧ (0 : Int) ≤ Int.ofNat (r.reverse).length - 1 ∧ Int.ofNat (r.reverse).length - 1 ≤ 1000000 ∧ (2 : Int) = 2) ∧ decide (Int.ofNat (r.reverse).length > 1) = true ∧ True) (by kernel_rfl) ⟨?_, hk, hp, by decide, ⟨hc, by rw [range2_len, he]; have := room_big; omega⟩, ⟨rfl, by omega, by omega, rfl⟩, hd, trivial⟩ (k _ ?_)
      · have := (step_ok L.length L 0 (Nat.le_refl _)).2.1
        rw [join_step L.length L 0 (Nat.le_refl _), List.length_append] at this
        have hr := room_big
        rw [List.length_reverse, List.length_map]; omega
      · rw [List.reverse_cons, List.reverse_reverse, join_step L.length L 0 (Nat.le_refl _), if_pos hz, ht, List.map_append]; rfl
theorem wd_loop {m : Int} : ∀ (n : Nat) (L : List Tree) (l : List V) (j : Option O), L.length ≤ n → 1 ≤ L.length → L.length ≤ 1000 → gdL L → oddL L = false → l = L.map tv →
    ∃ t j', WD (d + 1) m (some (.val (.lst l))) j .next (wst m (some (.val (.lst [tv t]))) j') ∧ sz t + 1 = szL L + L.length ∧ gd t ∧ hasOdd t = false := by
  intro n
  induction n with
  | zero => intro L l j h h1; omega
  | succ n ih =>
    intro L l j h h1 h2 hg ho hl
    by_cases hq : 2 ≤ L.length
    · obtain ⟨s1, s2, s3, s4⟩ := step_ok L.length L 0 (Nat.le_refl _)
      obtain ⟨t, j', hw, e, g, q⟩ := ih (stepT 0 L) ((stepT 0 L).map tv) (some (.val (.lst ((stepT 0 L).map tv)))) (by omega) (by omega) (by omega) (s4 hg) (s3 ho) rfl
      exact ⟨t, j', wd_turn (.inl rfl) hl hq h2 fun l' hl' => by rw [hl']; exact hw, by omega, g, q⟩
    · match L, h1, hq, hl, hg, ho with
      | [t], _, _, hl, hg, ho =>
        subst hl
        have ho : (hasOdd t || false) = false := ho
        exact ⟨t, j, whil_end true (tp := [.b false]) (by kernel_rfl) (P := decide (Int.ofNat 1 > 1) = false ∧ True) (by kernel_rfl) ⟨rfl, trivial⟩, rfl, hg.1, by rwa [Bool.or_false] at ho⟩
      | _ :: _ :: _, _, hq, _, _, _ => exact absurd (by simp) hq
theorem ok_wide {m : Int} (h1 : 395 ≤ m) (h2 : m ≤ 404) : ∃ t, CallOK G (d + 2) 130 [.int m] (.val (tv t)) ∧ gd t ∧ hasOdd t = false ∧ sz t = m.toNat := by
  obtain ⟨z, hz⟩ : ∃ z : Nat, ((m + m % 2) / 2 - 0).toNat = z := ⟨_, rfl⟩
  obtain ⟨n1, n2, n3, n4⟩ := nums_ok z 0
  have hzb : 198 ≤ z ∧ z ≤ 202 := by omega
  obtain ⟨s1, s2, s3, s4⟩ := step_ok (numsT z 0).length (numsT z 0) 0 (Nat.le_refl _)
  obtain ⟨t, j', hw, e, g, q⟩ := wd_loop (d := d) (m := m) (stepT 0 (numsT z 0)).length (stepT 0 (numsT z 0)) _ (some (.val (.lst ((stepT 0 (numsT z 0)).map tv)))) (Nat.le_refl _) (by omega) (by omega) (s4 n4) (s3 n3) rfl
  have hw0 : WD (d + 1) m (some (.own ((numsT z 0).map tv).reverse)) none .next (wst m (some (.val (.lst [tv t]))) j') :=
    wd_turn (L := numsT z 0) (l := ((numsT z 0).map tv).reverse.reverse) (.inr ⟨_, rfl, rfl⟩) (by rw [List.reverse_reverse]) (by omega) (by omega) fun l' hl' => by rw [hl']; exact hw
  have hc := wd_nums (d := d + 1) (m := m) z 0
  have hlen : (rangeL 0 z).length ≤ room := by rw [rangeL_length]; have := room_big; omega
  cases hp : (m % 2 == 0) with
  | true =>
    have hm : m % 2 = 0 := by simpa using hp
    refine ⟨.fn z_f t, call_go (n := 3) (tp := [.vs ((numsT z 0).map tv), .l .next (wst m (some (.val (.lst [tv t]))) j'), .b true]) (b__law_wide (d + 1)) rfl (b__law_wide_x (d + 1)) rfl (by kernel_rfl)
      (P := (m % 2 == 0) = true ∧ (0 : Int) < 2 ∧ WD (d + 1) m (some (.own ((numsT z 0).map tv).reverse)) none .next (wst m (some (.val (.lst [tv t]))) j') ∧ CompT G (d + 1) (fi__law_wide.inner s__law_wide_92_15 "_law_k" 3) [] (e__law_wide_92_15 (d + 1)).x 3 (rangeL 0 ((m + m % 2) / 2 - 0).toNat) (wst m none none) ((numsT z 0).map tv) ∧ ((m + m % 2) / 2).natAbs ≤ 1000000 ∧ ((0 : Int) < 2 ∧ (2 : Int) < 536870912) ∧ (0 : Int) < 2 ∧ True) (by kernel_rfl)
      ⟨hp, by decide, hw0, by rw [hz]; exact ⟨hc, hlen⟩, by omega, by decide, by decide, trivial⟩, ⟨by kernel_rfl, g⟩, q, ?_⟩
    show sz t + 1 = _; omega
  | false =>
    have hm : ¬ m % 2 = 0 := by simpa using hp
    refine ⟨t, call_go (n := 3) (tp := [.vs ((numsT z 0).map tv), .l .next (wst m (some (.val (.lst [tv t]))) j'), .b false]) (b__law_wide (d + 1)) rfl (b__law_wide_x (d + 1)) rfl (by kernel_rfl)
      (P := (m % 2 == 0) = false ∧ (0 : Int) < 2 ∧ WD (d + 1) m (some (.own ((numsT z 0).map tv).reverse)) none .next (wst m (some (.val (.lst [tv t]))) j') ∧ CompT G (d + 1) (fi__law_wide.inner s__law_wide_92_15 "_law_k" 3) [] (e__law_wide_92_15 (d + 1)).x 3 (rangeL 0 ((m + m % 2) / 2 - 0).toNat) (wst m none none) ((numsT z 0).map tv) ∧ ((m + m % 2) / 2).natAbs ≤ 1000000 ∧ ((0 : Int) < 2 ∧ (2 : Int) < 536870912) ∧ (0 : Int) < 2 ∧ True) (by kernel_rfl)
      ⟨hp, by decide, hw0, by rw [hz]; exact ⟨hc, hlen⟩, by omega, by decide, by decide, trivial⟩, g, q, by omega⟩
end Mine.L02
end

section
open PySem
set_option autoImplicit false
set_option maxRecDepth 100000
namespace Mine.L02
variable {d : Nat}
noncomputable def cellv (ns : List Int) (m : Nat) : Int := ns.getD m 0
theorem ok_cell (ns : List Int) (m : Nat) : CallOK G (d + 1) 83 [.lst (ns.map .int), .int (Int.ofNat m)] (.val (.int (cellv ns m))) := by
  unfold cellv
  by_cases h : m < ns.length
  · rw [show ns.getD m 0 = ns[m] by simp [h]]
    refine call_go (n := 0) (tp := [.b true, .r (.val (.int ns[m]))]) (b__law_cell_at d) rfl (b__law_cell_at_x d) rfl (by kernel_rfl) (P := Pick (.val (.lst (ns.map .int))) (Int.ofNat m) (.val (.int ns[m])) ∧ decide ((Int.ofNat m) < ((ns.map V.int).length : Int)) = true ∧ True) (by kernel_rfl) ⟨?_, ?_, trivial⟩
    · show ((ns.map V.int)[m]?).bind _ = _
      rw [List.getElem?_map, List.getElem?_eq_getElem h]; rfl
    · rw [List.length_map, decide_eq_true_eq]; exact Int.ofNat_lt.mpr h
  · rw [show ns.getD m 0 = 0 by simp [Nat.not_lt.mp h]]
    refine call_go (n := 0) (tp := [.b false]) (b__law_cell_at d) rfl (b__law_cell_at_x d) rfl (by kernel_rfl) (P := decide ((Int.ofNat m) < ((ns.map V.int).length : Int)) = false ∧ True) (by kernel_rfl) ⟨?_, trivial⟩
    rw [List.length_map, decide_eq_false_iff_not]; exact fun q => h (Int.ofNat_lt.mp q)
theorem pick_mod {l : List Nat} {n : Nat} (hl : l.length = n) (hn : 0 < n) (i : Int) : Pick (.val (.str l)) (i % (n : Int)) (.val (.str [l.getD (i % (n : Int)).toNat 0])) ∧ (i % (n : Int)).toNat < n := by
  obtain ⟨k, hk, e⟩ := mod_cases i n hn
  rw [e]
  have hk' : k < l.length := by omega
  refine ⟨?_, hk⟩
  show ((l[k]?).bind fun c => some (V.str [c])).bind (fun v => some (O.val v)) = some (O.val (V.str [l.getD k 0]))
  rw [List.getElem?_eq_getElem hk']
  simp [hk']
noncomputable def fineN (c : Int) : Int := c % (2 * great - 1) - great + 1
noncomputable def lt26 (c : Int) : Nat := letters.getD (c % 26).toNat 0
noncomputable def fineK (k : Nat) (c : Int) : Tree := Nat.casesOn k (.num (fineN c)) fun k => Nat.casesOn k (.name (List.replicate (1 + c / 26 % 8).toNat (lt26 c))) fun k => Nat.casesOn k (.fn z_q (.num (fineN c))) fun _ => .less (.num (fineN c)) (.num (fineN c))
noncomputable def fineT (c : Int) : Tree := fineK (c / 5 % 4).toNat c
theorem fine_num (c : Int) : numV (.int (fineN c)) = true := by
  have h1 := Int.emod_nonneg c (show (2 * great - 1 : Int) ≠ 0 by unfold great; decide)
  have h2 := Int.emod_lt_of_pos c (show (0 : Int) < 2 * great - 1 by unfold great; decide)
  show (decide (-great < fineN c) && decide (fineN c < great)) = true
  rw [Bool.and_eq_true, decide_eq_true_eq, decide_eq_true_eq]
  unfold fineN
  generalize c % (2 * great - 1) = x at h1 h2
  unfold great at *
  omega
theorem fine_name (c : Int) : isName (List.replicate (1 + c / 26 % 8).toNat (lt26 c)) = true := by
  have key : ((List.range 8).all fun j => (List.range 26).all fun i => isName (List.replicate (j + 1) (letters.getD i 0))) = true := by kernel_rfl
  obtain ⟨j, hj, e⟩ := mod_cases (c / 26) 8 (by decide)
  have e : c / 26 % 8 = Int.ofNat j := e
  have h1 : (1 + c / 26 % 8).toNat = j + 1 := by rw [e]; show (1 + (j : Int)).toNat = j + 1; omega
  obtain ⟨i, hi, e2⟩ := mod_cases c 26 (by decide)
  have e2 : c % 26 = Int.ofNat i := e2
  rw [h1]; unfold lt26; rw [e2]
  exact List.all_eq_true.mp (List.all_eq_true.mp key j (List.mem_range.mpr hj)) i (List.mem_range.mpr hi)
theorem fine_good (c : Int) : gd (fineT c) ∧ hasOdd (fineT c) = false ∧ sz (fineT c) ≤ 3 := by
  have h := fine_num c
  unfold fineT
  rcases (c / 5 % 4).toNat with _ | _ | _ | n
  · exact ⟨h, rfl, by show 1 ≤ 3; decide⟩
  · exact ⟨fine_name c, rfl, by show 1 ≤ 3; decide⟩
  · exact ⟨⟨by kernel_rfl, h⟩, rfl, by show 1 + 1 ≤ 3; decide⟩
  · exact ⟨⟨h, h⟩, rfl, by show 1 + 1 + 1 ≤ 3; decide⟩
theorem ok_fine (c : Int) : CallOK G (d + 1) 97 [.int c] (.val (tv (fineT c))) := by
  have hb := Int.emod_nonneg (c / 26) (show (8 : Int) ≠ 0 by decide)
  have hb2 := Int.emod_lt_of_pos (c / 26) (show (0 : Int) < 8 by decide)
  refine call_go (n := 2) (tp := [.r (.val (.str [lt26 c])), .r (.val (tv (fineT c)))]) (b__law_fine d) rfl (b__law_fine_x d) rfl (by kernel_rfl)
    (P := Pick (.val (.lst [tv (.num (fineN c)), tv (.name (List.replicate (1 + c / 26 % 8).toNat (lt26 c))), tv (.fn z_q (.num (fineN c))), tv (.less (.num (fineN c)) (.num (fineN c)))])) (c / 5 % 4) (.val (tv (fineT c))) ∧ (0 : Int) < 4 ∧ ((0 : Int) < 5 ∧ (5 : Int) < 536870912) ∧ ((1 : Int) ≤ 1 + c / 26 % 8 ∧ 1 + c / 26 % 8 ≤ 1000) ∧ (0 : Int) < 8 ∧ ((0 : Int) < 26 ∧ (26 : Int) < 536870912) ∧
      Pick (.val (.str letters)) (c % 26) (.val (.str [lt26 c])) ∧ (0 : Int) < 26 ∧ ((10 : Int) = 10 ∧ (0 : Int) < 60 ∧ (60 : Int) ≤ 100) ∧ (0 : Int) < 2 * great - 1 ∧ (2 < 4611686018427387904 ∨ 1000000000000000000000000000000000000000000000000000000000000 < 4611686018427387904) ∧ ((10 : Int) = 10 ∧ (0 : Int) < 60 ∧ (60 : Int) ≤ 100) ∧ True) (by kernel_rfl)
    ⟨?_, by decide, by decide, ⟨by omega, by omega⟩, by decide, by decide, ?_, by decide, by decide, by unfold great; decide, .inl (by decide), by decide, trivial⟩
  · obtain ⟨k, hk, e⟩ := mod_cases (c / 5) 4 (by decide)
    have e : c / 5 % 4 = Int.ofNat k := e
    unfold fineT; rw [e, show (Int.ofNat k).toNat = k from rfl]
    rcases k with _ | _ | _ | _ | n
    · rfl
    · rfl
    · rfl
    · rfl
    · omega
  · exact (pick_mod (l := letters) (n := 26) (by kernel_rfl) (by decide) c).1

noncomputable abbrev n1 : V := .tup [.str z_num, .int 1]
noncomputable def odds (w : List Nat) (s : Nat) : List V := [.tup [.str z_num, .bool true], .tup [.str z_num, .bool false], .tup [.str z_num, .int great], .tup [.str z_num, .int (-great)], .tup [.str z_num, .str z_1], .tup [.str z_num], .tup [.str z_num, .int 1, .int 2], .tup [.str z_num, .none], .tup [.str z_name, .str w], .tup [.str z_name, .str w], .tup [.str z_name, .str w], .tup [.str z_name, .str w], .tup [.str z_name, .str z_], .tup [.str z_name, .str z_abcdefghi], .tup [.str z_name, .str z_aB], .tup [.str z_name, .int 5], .tup [.str z_name, .str z_au32ub], .tup [.str z_name, .str z_x1], .tup [.str z_fun, .str z_x], .tup [.str z_fun, .str w, n1], .tup [.str z_fun, n1, n1], .tup [.str z_call, n1], .tup [.str z_plus, n1, n1, n1], .tup [.str z_if, n1, n1], .tup [.str z_let, .str z_x, n1], .tup [.str z_let, .str w, n1, n1], .lst [.str z_num, .int 1], .str z_num, .int 5, .none, .tup [], .tup [.str z_sum, n1, n1], .tup [n1, n1], .tup [.str z_fun, .str z_x, n1, n1], .tup [.str z_let, .str z_x, n1, n1, n1], .tup [.str z_if, n1, n1, n1, n1], .tup [.str z_call, n1, n1, n1], .tup [.str z_less, n1, n1, n1], .tup [.str z_name, .str z_x, .str z_y], .tup [.str z_name, .str (z_ab ++ [s])], .tup [.str z_fun, .str ([s] ++ z_b), n1], .tup [.str z_fun, .str z_abcdefghi, n1], .tup [.str z_fun, .str z_x1, n1], .tup [.str z_let, .str z_abcdefghi, n1, n1], .tup [.str z_let, .str z_x1, n1, n1], .tup [.str z_fun, .str z_, n1], .tup [.str z_let, .str z_, n1, n1]]
def badL (l : List V) : Prop := @List.rec V (fun _ => Prop) True (fun v _ r => BadN v ∧ r) l
theorem badL_get : ∀ {l : List V} {k : Nat} (h : badL l) (hk : k < l.length), BadN l[k]
  | _ :: _, 0, h, _ => h.1
  | _ :: l, k + 1, h, hk => badL_get (l := l) (k := k) h.2 (Nat.lt_of_succ_lt_succ hk)
theorem odds_bad {w : List Nat} {s : Nat} (hw : isName w = false) (h1 : isName (z_ab ++ [s]) = false) (h2 : isName ([s] ++ z_b) = false) : badL (odds w s) :=
  ⟨.num rfl, .num rfl, .num (by kernel_rfl), .num (by kernel_rfl), .num rfl, .len (k := 2) (by kernel_rfl) (by kernel_rfl) (by kernel_rfl), .len (k := 2) (by kernel_rfl) (by kernel_rfl) (by kernel_rfl), .num rfl, .name hw, .name hw, .name hw, .name hw, .name (by kernel_rfl), .name (by kernel_rfl), .name (by kernel_rfl), .name rfl, .name (by kernel_rfl), .name (by kernel_rfl), .len (k := 3) (by kernel_rfl) (by kernel_rfl) (by kernel_rfl), .fn hw, .fn rfl, .len (k := 3) (by kernel_rfl) (by kernel_rfl) (by kernel_rfl), .len (k := 3) (by kernel_rfl) (by kernel_rfl) (by kernel_rfl), .len (k := 4) (by kernel_rfl) (by kernel_rfl) (by kernel_rfl), .len (k := 4) (by kernel_rfl) (by kernel_rfl) (by kernel_rfl), .lt hw, .lst _, .str _, .int _, .none, .nil, .word (by kernel_rfl), .head _ _, .len (k := 3) (by kernel_rfl) (by kernel_rfl) (by kernel_rfl), .len (k := 4) (by kernel_rfl) (by kernel_rfl) (by kernel_rfl), .len (k := 4) (by kernel_rfl) (by kernel_rfl) (by kernel_rfl), .len (k := 3) (by kernel_rfl) (by kernel_rfl) (by kernel_rfl), .len (k := 3) (by kernel_rfl) (by kernel_rfl) (by kernel_rfl), .len (k := 2) (by kernel_rfl) (by kernel_rfl) (by kernel_rfl), .name h1, .fn h2, .fn (by kernel_rfl), .fn (by kernel_rfl), .lt (by kernel_rfl), .lt (by kernel_rfl), .fn (by kernel_rfl), .lt (by kernel_rfl), trivial⟩
noncomputable abbrev signs : List Nat := z_u95uu45uu39u0123456789ABCDEFGHIJKLMNOPQRSTUVWXYZu33uu63uu46uu44uu58uu59uu34uu96uu126uu124uu43uu42uu47uu92uu61uu60uu62uu40uu41uu91uu93uu123uu125uu35uu36uu38uu64uu94uu32uu9uu10u
theorem ok_odd (c : Int) : ∃ v, CallOK G (d + 1) 90 [.int c] (.val v) ∧ BadN v := by
  obtain ⟨kw, hkw, ew⟩ := mod_cases (c / 47) 8 (by decide)
  have ew : c / 47 % 8 = Int.ofNat kw := ew
  have hw8 : kw < words.length := hkw
  have kw8 : words.all (fun x => !isName x) = true := by kernel_rfl
  have hw : isName words[kw] = false := by
    have := List.all_eq_true.mp kw8 _ (List.getElem_mem hw8)
    simpa using this
  have pw : Pick (.val (.lst [.str z_num, .str z_name, .str z_fun, .str z_call, .str z_plus, .str z_less, .str z_if, .str z_let])) (c / 47 % 8) (.val (.str words[kw])) := by
    rw [ew]
    show (((words.map V.str)[kw]?).bind _) = _
    rw [List.getElem?_map, List.getElem?_eq_getElem hw8]; rfl
  obtain ⟨ps, hs⟩ := pick_mod (l := signs) (n := signs.length) rfl (by decide) (c / 47)
  have sg : signs.all (fun x => !isName (z_ab ++ [x]) && !isName ([x] ++ z_b)) = true := by kernel_rfl
  generalize hsx : signs.getD (c / 47 % (signs.length : Int)).toNat 0 = s at ps
  have hsm : s ∈ signs := by
    rw [← hsx, List.getD_eq_getElem?_getD, List.getElem?_eq_getElem hs]; exact List.getElem_mem hs
  have h12 := List.all_eq_true.mp sg s hsm
  rw [Bool.and_eq_true, Bool.not_eq_true', Bool.not_eq_true'] at h12
  obtain ⟨k, hk, e⟩ := mod_cases c 47 (by decide)
  have e : c % 47 = Int.ofNat k := e
  have hk' : k < (odds words[kw] s).length := hk
  refine ⟨(odds words[kw] s)[k], ?_, badL_get (odds_bad hw h12.1 h12.2) hk'⟩
  have pk : Pick (.own (odds words[kw] s).reverse) (c % 47) (.val (odds words[kw] s)[k]) := by
    rw [e]
    show (((odds words[kw] s).reverse.reverse[k]?).bind _) = _
    rw [List.reverse_reverse, List.getElem?_eq_getElem hk']; rfl
  generalize words[kw] = w at *
  exact call_go (n := 5) (tp := [.r (.val (.str w)), .r (.val (.str [s])), .r (.val (odds w s)[k])]) (b__law_odd d) rfl (b__law_odd_x d) rfl (by kernel_rfl)
    (P := Pick (.own (odds w s).reverse) (c % 47) (.val (odds w s)[k]) ∧ (0 : Int) < 47 ∧ 47 ≤ room ∧ 43 ≤ room ∧ ([s] ++ z_b).length ≤ room ∧ (z_ab ++ [s]).length ≤ room ∧ Pick (.val (.str signs)) (c / 47 % (signs.length : Int)) (.val (.str [s])) ∧ (0 : Int) < (signs.length : Int) ∧ ((0 : Int) < 47 ∧ (47 : Int) < 536870912) ∧ 39 ≤ room ∧ 36 ≤ room ∧ 30 ≤ room ∧ 22 ≤ room ∧ 16 ≤ room ∧ 12 ≤ room ∧ ((10 : Int) = 10 ∧ (0 : Int) < 60 ∧ (60 : Int) ≤ 100) ∧ ((10 : Int) = 10 ∧ (0 : Int) < 60 ∧ (60 : Int) ≤ 100) ∧
      Pick (.val (.lst [.str z_num, .str z_name, .str z_fun, .str z_call, .str z_plus, .str z_less, .str z_if, .str z_let])) (c / 47 % 8) (.val (.str w)) ∧ (0 : Int) < 8 ∧ ((0 : Int) < 47 ∧ (47 : Int) < 536870912) ∧ True) (by kernel_rfl)
    ⟨pk, by decide, by decide, by decide, by show 2 ≤ room; decide, by show 3 ≤ room; decide, ps, by decide, by decide, by decide, by decide, by decide, by decide, by decide, by decide, by decide, by decide, pw, by decide, by decide, trivial⟩

noncomputable def wholeT (f : Nat → Tree) : Tree := .plus (.plus (.plus (f 0) (.ite (f 1) (f 2) (f 3))) (.lt z_abcdefgh (f 4) (.call (f 5) (f 6)))) (.call (.fn z_z (.less (f 7) (f 8))) (.lt z_fu (f 9) (.plus (f 10) (f 11))))
noncomputable def ths (f : Nat → Tree) : Nat → Nat → List V
  | 0, _ => []
  | n + 1, a => tv (f a) :: ths f n (a + 1)
theorem ok_whole_ (f : Nat → Tree) : CallOK G (d + 1) 104 [.lst (ths f 12 0)] (.val (tv (wholeT f))) :=
  call_go (n := 3) (tp := []) (b__law_whole d) rfl (b__law_whole_x d) rfl (by kernel_rfl) (P := True) (by kernel_rfl) trivial
theorem whole_good (f : Nat → Tree) (h : ∀ k, k < 12 → gd (f k)) : gd (wholeT f) :=
  ⟨⟨⟨h 0 (by decide), h 1 (by decide), h 2 (by decide), h 3 (by decide)⟩, by kernel_rfl, h 4 (by decide), h 5 (by decide), h 6 (by decide)⟩, ⟨by kernel_rfl, h 7 (by decide), h 8 (by decide)⟩, by kernel_rfl, h 9 (by decide), h 10 (by decide), h 11 (by decide)⟩
theorem whole_odd (f : Nat → Tree) : hasOdd (wholeT f) = (((hasOdd (f 0) || (hasOdd (f 1) || (hasOdd (f 2) || hasOdd (f 3)))) || (hasOdd (f 4) || (hasOdd (f 5) || hasOdd (f 6)))) || ((hasOdd (f 7) || hasOdd (f 8)) || (hasOdd (f 9) || (hasOdd (f 10) || hasOdd (f 11))))) := rfl
theorem whole_sz (f : Nat → Tree) (h : ∀ k, k < 12 → sz (f k) ≤ 3) : sz (wholeT f) ≤ 400 := by
  have h0 := h 0 (by decide)
  have h1 := h 1 (by decide)
  have h2 := h 2 (by decide)
  have h3 := h 3 (by decide)
  have h4 := h 4 (by decide)
  have h5 := h 5 (by decide)
  have h6 := h 6 (by decide)
  have h7 := h 7 (by decide)
  have h8 := h 8 (by decide)
  have h9 := h 9 (by decide)
  have h10 := h 10 (by decide)
  have h11 := h 11 (by decide)
  show (sz (f 0) + (sz (f 1) + sz (f 2) + sz (f 3) + 1) + 1) + (sz (f 4) + (sz (f 5) + sz (f 6) + 1) + 1) + 1 + ((sz (f 7) + sz (f 8) + 1 + 1) + (sz (f 9) + (sz (f 10) + sz (f 11) + 1) + 1) + 1) + 1 ≤ 400
  omega
theorem dpt_le (v : V) : dpt v ≤ vsz v :=
  V.rec (motive_1 := fun v => dpt v ≤ vsz v) (motive_2 := fun l => dpts l ≤ vszL l) (Nat.zero_le _) (fun _ => Nat.zero_le _) (fun _ => Nat.zero_le _) (fun _ => Nat.zero_le _) (fun _ h => Nat.succ_le_succ h) (fun _ h => Nat.succ_le_succ h) (Nat.zero_le _) (fun _ _ h k => Nat.max_le.mpr ⟨Nat.le_trans h (Nat.le_add_right _ _), Nat.le_trans k (Nat.le_add_left _ _)⟩) v
end Mine.L02
end

section
open PySem
set_option autoImplicit false
set_option maxRecDepth 100000
namespace Mine.L02
noncomputable def fin? {α : Type} (r : Option (α × St)) : Bool := Option.casesOn r false fun p => List.casesOn p.2.tp true fun _ _ => false
theorem wcall_fin {G : Gl} {d : Nat} {a : Addr} {f : FD} {args : List V} {n : Nat} {tp : List Tk} {P : Prop} (B : SW G d f.fi) (hf : G.fd.lookup a = some f) (hB : B.xs = f.st) (hn : args.length = f.ps.length)
    (e : fin? (B.ex ⟨loc0 args n, tp, []⟩) = true) (ob : All (obs (B.ex ⟨loc0 args n, tp, []⟩)) = P) (p : P) : WCall G (d + 1) a args := by
  subst ob
  cases q : B.ex ⟨loc0 args n, tp, []⟩ with
  | none => rw [q] at e; cases e
  | some r =>
    obtain ⟨u, ρ, tp', ob'⟩ := r
    rw [q] at e p
    exact wcall_of hf hn (hB ▸ (B.eo _ _ _ q p).2)
noncomputable def fnT (ns : List Int) (k : Nat) : Tree := fineT (cellv ns (3 + k) + Int.ofNat k)
noncomputable abbrev lst0 (ns : List Int) (x : Int) : Loc := [some (.val (.lst (ns.map .int))), some (.val (.int x)), none, none, none, none, none, none]
theorem lw_things (ns : List Int) (x : Int) : ∀ n a : Nat, CompL G 4 (fi_law.inner s_law_121_18 "_law_k" 7) (e_law_121_18 4).x 7 ((shr (lst0 ns x)).set 7 none) (rangeL (Int.ofNat a) n) (ths (fnT ns) n a)
  | 0, a => comp_nil
  | n + 1, a => comp_go (v := .int (Int.ofNat a)) (l := rangeL (Int.ofNat (a + 1)) n) (o := .val (tv (fnT ns a))) (tp := [.r (.val (.int (cellv ns (3 + a)))), .r (.val (tv (fnT ns a)))]) (by kernel_rfl)
      (P := CallOK G 4 97 [.int (cellv ns (3 + a) + Int.ofNat a)] (.val (tv (fnT ns a))) ∧ CallOK G 4 83 [.lst (ns.map .int), .int (Int.ofNat (3 + a))] (.val (.int (cellv ns (3 + a)))) ∧ True) (by kernel_rfl) ⟨ok_fine _, ok_cell ns (3 + a), trivial⟩ (lw_things ns x n (a + 1))
theorem fn_good (ns : List Int) (k : Nat) : gd (fnT ns k) ∧ hasOdd (fnT ns k) = false ∧ sz (fnT ns k) ≤ 3 := fine_good _
theorem lw_tree (ns : List Int) {m : Int} (h1 : 395 ≤ m) (h2 : m ≤ 404) (c : Int) : ∃ t1 t2 t3 : Tree, CallOK G 4 118 [.int m] (.val (tv t1)) ∧ CallOK G 4 130 [.int m] (.val (tv t2)) ∧ Pick (.val (.lst [tv t1, tv t2])) (c / 10 % 2) (.val (tv t3)) ∧ gd t3 ∧ hasOdd t3 = false ∧ sz t3 = m.toNat := by
  obtain ⟨t2, w1, w2, w3, w4⟩ := ok_wide (d := 2) h1 h2
  obtain ⟨d1, d2, d3⟩ := deep_ok (m - 1).toNat (.num m)
  have gm : gd (.num m) := by
    show (decide (-great < m) && decide (m < great)) = true
    rw [Bool.and_eq_true, decide_eq_true_eq, decide_eq_true_eq]
    unfold great
    omega
  have e1 : sz (.num m) = 1 := rfl
  obtain ⟨k, hk, e⟩ := mod_cases (c / 10) 2 (by decide)
  have e : c / 10 % 2 = Int.ofNat k := e
  rcases k with _ | _ | k
  · exact ⟨deepT (m - 1).toNat (.num m), t2, deepT (m - 1).toNat (.num m), ok_deep (d := 3) (by omega) (by omega), w1, by rw [e]; rfl, d3 gm, d2, by omega⟩
  · exact ⟨deepT (m - 1).toNat (.num m), t2, t2, ok_deep (d := 3) (by omega) (by omega), w1, by rw [e]; rfl, w2, w3, w4⟩
  · omega

theorem law_ok (ns : List Int) (hlen : ns.length ≤ 63) : WCall G 5 142 [.lst (ns.map .int)] := by
  have c0 := ok_cell (d := 3) ns 0
  have c1 := ok_cell (d := 3) ns 1
  have c2 := ok_cell (d := 3) ns 2
  cases hw0 : (cellv ns 0 % 8 == 0) with
  | true =>
    have hb1 := Int.emod_nonneg (cellv ns 1) (show (10 : Int) ≠ 0 by decide)
    have hb2 := Int.emod_lt_of_pos (cellv ns 1) (show (0 : Int) < 10 by decide)
    obtain ⟨t1, t2, t3, a1, a2, a3, g, q, hs⟩ := lw_tree ns (m := 395 + cellv ns 1 % 10) (by omega) (by omega) (cellv ns 1)
    cases hd : decide (395 + cellv ns 1 % 10 > 400) with
    | true =>
      have hd' : 395 + cellv ns 1 % 10 > 400 := of_decide_eq_true hd
      exact wcall_fin (n := 7) (tp := [.r (.val (.int (cellv ns 0))), .b true, .r (.val (.int (cellv ns 1))), .r (.val (tv t1)), .r (.val (tv t2)), .r (.val (.int (cellv ns 1))), .r (.val (tv t3)), .b true]) (b_law 4) rfl (b_law_x 4) rfl (by kernel_rfl)
        (P := WCall G 4 111 [tv t3] ∧ decide (395 + cellv ns 1 % 10 > 400) = true ∧ Pick (.val (.lst [tv t1, tv t2])) (cellv ns 1 / 10 % 2) (.val (tv t3)) ∧ (0 : Int) < 2 ∧ ((0 : Int) < 10 ∧ (10 : Int) < 536870912) ∧ CallOK G 4 83 [.lst (ns.map .int), .int (Int.ofNat 1)] (.val (.int (cellv ns 1))) ∧ CallOK G 4 130 [.int (395 + cellv ns 1 % 10)] (.val (tv t2)) ∧ CallOK G 4 118 [.int (395 + cellv ns 1 % 10)] (.val (tv t1)) ∧ (0 : Int) < 10 ∧ CallOK G 4 83 [.lst (ns.map .int), .int (Int.ofNat 1)] (.val (.int (cellv ns 1))) ∧ (cellv ns 0 % 8 == 0) = true ∧ (0 : Int) < 8 ∧ CallOK G 4 83 [.lst (ns.map .int), .int (Int.ofNat 0)] (.val (.int (cellv ns 0))) ∧ True) (by kernel_rfl)
        ⟨ok_refused (d := 0) g (.inr (by omega)), hd, a3, by decide, by decide, c1, a2, a1, by decide, c1, hw0, by decide, c0, trivial⟩
    | false =>
      have hd' : ¬ 395 + cellv ns 1 % 10 > 400 := of_decide_eq_false hd
      exact wcall_fin (n := 7) (tp := [.r (.val (.int (cellv ns 0))), .b true, .r (.val (.int (cellv ns 1))), .r (.val (tv t1)), .r (.val (tv t2)), .r (.val (.int (cellv ns 1))), .r (.val (tv t3)), .b false, .r (.val (tv t3)), .r (.val (.bool true))]) (b_law 4) rfl (b_law_x 4) rfl (by kernel_rfl)
        (P := true = true ∧ CallOK G 4 137 [tv t3, tv t3] (.val (.bool true)) ∧ CallOK G 4 76 [tv t3] (.val (tv t3)) ∧ decide (395 + cellv ns 1 % 10 > 400) = false ∧ Pick (.val (.lst [tv t1, tv t2])) (cellv ns 1 / 10 % 2) (.val (tv t3)) ∧ (0 : Int) < 2 ∧ ((0 : Int) < 10 ∧ (10 : Int) < 536870912) ∧ CallOK G 4 83 [.lst (ns.map .int), .int (Int.ofNat 1)] (.val (.int (cellv ns 1))) ∧ CallOK G 4 130 [.int (395 + cellv ns 1 % 10)] (.val (tv t2)) ∧ CallOK G 4 118 [.int (395 + cellv ns 1 % 10)] (.val (tv t1)) ∧ (0 : Int) < 10 ∧ CallOK G 4 83 [.lst (ns.map .int), .int (Int.ofNat 1)] (.val (.int (cellv ns 1))) ∧ (cellv ns 0 % 8 == 0) = true ∧ (0 : Int) < 8 ∧ CallOK G 4 83 [.lst (ns.map .int), .int (Int.ofNat 0)] (.val (.int (cellv ns 0))) ∧ True) (by kernel_rfl)
        ⟨rfl, ok_same (d := 3) q (by omega), ok_need (d := 1) g q (by omega), hd, a3, by decide, by decide, c1, a2, a1, by decide, c1, hw0, by decide, c0, trivial⟩
  | false =>
    have ct : CompT G 4 (fi_law.inner s_law_121_18 "_law_k" 7) [] (e_law_121_18 4).x 7 (rangeL 0 12) (lst0 ns (cellv ns 0 % 8)) (ths (fnT ns) 12 0) := ⟨lw_things ns _ 12 0, by show 12 ≤ room; decide⟩
    have gw := whole_good (fnT ns) fun k _ => (fn_good ns k).1
    have sw := whole_sz (fnT ns) fun k _ => (fn_good ns k).2.2
    cases hw1 : (cellv ns 0 % 8 == 1) with
    | true =>
      have ow : hasOdd (wholeT (fnT ns)) = false := by
        rw [whole_odd]
        simp only [(fn_good ns _).2.1, Bool.or_false]
      have hz := (pl_tv (wholeT (fnT ns)) ow).2
      have hdp : dpt (tv (wholeT (fnT ns))) ≤ 1900 := Nat.le_trans (dpt_le _) (by omega)
      exact wcall_fin (n := 7) (tp := [.r (.val (.int (cellv ns 0))), .b false, .vs (ths (fnT ns) 12 0), .b true, .r (.val (tv (wholeT (fnT ns)))), .r (.val (tv (wholeT (fnT ns)))), .r (.val (tv (wholeT (fnT ns))))]) (b_law 4) rfl (b_law_x 4) rfl (by kernel_rfl)
        (P := true = true ∧ (tv (wholeT (fnT ns)) = tv (wholeT (fnT ns)) ∧ dpt (tv (wholeT (fnT ns))) ≤ 1900) ∧ CallOK G 4 104 [.lst (ths (fnT ns) 12 0)] (.val (tv (wholeT (fnT ns)))) ∧ CallOK G 4 76 [tv (wholeT (fnT ns))] (.val (tv (wholeT (fnT ns)))) ∧ CallOK G 4 104 [.lst (ths (fnT ns) 12 0)] (.val (tv (wholeT (fnT ns)))) ∧ (cellv ns 0 % 8 == 1) = true ∧ CompT G 4 (fi_law.inner s_law_121_18 "_law_k" 7) [] (e_law_121_18 4).x 7 (rangeL 0 12) (lst0 ns (cellv ns 0 % 8)) (ths (fnT ns) 12 0) ∧ 12 ≤ 1000000 ∧ (cellv ns 0 % 8 == 0) = false ∧ (0 : Int) < 8 ∧ CallOK G 4 83 [.lst (ns.map .int), .int (Int.ofNat 0)] (.val (.int (cellv ns 0))) ∧ True) (by kernel_rfl)
        ⟨rfl, ⟨rfl, hdp⟩, ok_whole_ _, ok_need (d := 1) gw ow sw, ok_whole_ _, hw1, ct, by decide, hw0, by decide, c0, trivial⟩
    | false =>
      obtain ⟨v, ho, hv⟩ := ok_odd (d := 3) (cellv ns 1)
      cases hw2 : (cellv ns 0 % 8 == 2) with
      | true =>
        exact wcall_fin (n := 7) (tp := [.r (.val (.int (cellv ns 0))), .b false, .vs (ths (fnT ns) 12 0), .b false, .r (.val (.int (cellv ns 1))), .r (.val v), .b true]) (b_law 4) rfl (b_law_x 4) rfl (by kernel_rfl)
          (P := WCall G 4 111 [v] ∧ (cellv ns 0 % 8 == 2) = true ∧ CallOK G 4 90 [.int (cellv ns 1)] (.val v) ∧ CallOK G 4 83 [.lst (ns.map .int), .int (Int.ofNat 1)] (.val (.int (cellv ns 1))) ∧ (cellv ns 0 % 8 == 1) = false ∧ CompT G 4 (fi_law.inner s_law_121_18 "_law_k" 7) [] (e_law_121_18 4).x 7 (rangeL 0 12) (lst0 ns (cellv ns 0 % 8)) (ths (fnT ns) 12 0) ∧ 12 ≤ 1000000 ∧ (cellv ns 0 % 8 == 0) = false ∧ (0 : Int) < 8 ∧ CallOK G 4 83 [.lst (ns.map .int), .int (Int.ofNat 0)] (.val (.int (cellv ns 0))) ∧ True) (by kernel_rfl)
          ⟨ok_refused (d := 0) (t := .odd v) hv (.inl rfl), hw2, ho, c1, hw1, ct, by decide, hw0, by decide, c0, trivial⟩
      | false =>
        obtain ⟨k, hk, e⟩ := mod_cases (cellv ns 2) 12 (by decide)
        have e : cellv ns 2 % 12 = Int.ofNat k := e
        have gf : ∀ j, gd (if j = k then .odd v else fnT ns j) := fun j => by
          split
          · exact hv
          · exact (fn_good ns j).1
        have gw2 := whole_good (fun j => if j = k then .odd v else fnT ns j) fun j _ => gf j
        match k, hk, e, gw2 with
        | 0, _, e, gw2 =>
          have ow : hasOdd (wholeT (fun j => if j = 0 then .odd v else fnT ns j)) = true := by
            rw [whole_odd]; simp [show hasOdd (.odd v) = true from rfl]
          exact wcall_fin (n := 7) (tp := [.r (.val (.int (cellv ns 0))), .b false, .vs (ths (fnT ns) 12 0), .b false, .r (.val (.int (cellv ns 1))), .r (.val v), .b false, .r (.val (.int (cellv ns 2))), .r (.val (.int (Int.ofNat 0))), .r (.val (tv (wholeT (fun j => if j = 0 then .odd v else fnT ns j))))]) (b_law 4) rfl (b_law_x 4) rfl (by kernel_rfl)
            (P := WCall G 4 111 [tv (wholeT (fun j => if j = 0 then .odd v else fnT ns j))] ∧ CallOK G 4 104 [.lst (ths (fun j => if j = 0 then .odd v else fnT ns j) 12 0)] (.val (tv (wholeT (fun j => if j = 0 then .odd v else fnT ns j)))) ∧ (O.val (.int (cellv ns 2 % 12)) = O.val (.int (Int.ofNat 0))) ∧ (0 : Int) < 12 ∧ CallOK G 4 83 [.lst (ns.map .int), .int (Int.ofNat 2)] (.val (.int (cellv ns 2))) ∧ (cellv ns 0 % 8 == 2) = false ∧ CallOK G 4 90 [.int (cellv ns 1)] (.val v) ∧ CallOK G 4 83 [.lst (ns.map .int), .int (Int.ofNat 1)] (.val (.int (cellv ns 1))) ∧ (cellv ns 0 % 8 == 1) = false ∧ CompT G 4 (fi_law.inner s_law_121_18 "_law_k" 7) [] (e_law_121_18 4).x 7 (rangeL 0 12) (lst0 ns (cellv ns 0 % 8)) (ths (fnT ns) 12 0) ∧ 12 ≤ 1000000 ∧ (cellv ns 0 % 8 == 0) = false ∧ (0 : Int) < 8 ∧ CallOK G 4 83 [.lst (ns.map .int), .int (Int.ofNat 0)] (.val (.int (cellv ns 0))) ∧ True) (by kernel_rfl)
            ⟨ok_refused (d := 0) gw2 (.inl ow), ok_whole_ _, by rw [e], by decide, c2, hw2, ho, c1, hw1, ct, by decide, hw0, by decide, c0, trivial⟩
        | 1, _, e, gw2 =>
          have ow : hasOdd (wholeT (fun j => if j = 1 then .odd v else fnT ns j)) = true := by
            rw [whole_odd]; simp [show hasOdd (.odd v) = true from rfl]
          exact wcall_fin (n := 7) (tp := [.r (.val (.int (cellv ns 0))), .b false, .vs (ths (fnT ns) 12 0), .b false, .r (.val (.int (cellv ns 1))), .r (.val v), .b false, .r (.val (.int (cellv ns 2))), .r (.val (.int (Int.ofNat 1))), .r (.val (tv (wholeT (fun j => if j = 1 then .odd v else fnT ns j))))]) (b_law 4) rfl (b_law_x 4) rfl (by kernel_rfl)
            (P := WCall G 4 111 [tv (wholeT (fun j => if j = 1 then .odd v else fnT ns j))] ∧ CallOK G 4 104 [.lst (ths (fun j => if j = 1 then .odd v else fnT ns j) 12 0)] (.val (tv (wholeT (fun j => if j = 1 then .odd v else fnT ns j)))) ∧ (O.val (.int (cellv ns 2 % 12)) = O.val (.int (Int.ofNat 1))) ∧ (0 : Int) < 12 ∧ CallOK G 4 83 [.lst (ns.map .int), .int (Int.ofNat 2)] (.val (.int (cellv ns 2))) ∧ (cellv ns 0 % 8 == 2) = false ∧ CallOK G 4 90 [.int (cellv ns 1)] (.val v) ∧ CallOK G 4 83 [.lst (ns.map .int), .int (Int.ofNat 1)] (.val (.int (cellv ns 1))) ∧ (cellv ns 0 % 8 == 1) = false ∧ CompT G 4 (fi_law.inner s_law_121_18 "_law_k" 7) [] (e_law_121_18 4).x 7 (rangeL 0 12) (lst0 ns (cellv ns 0 % 8)) (ths (fnT ns) 12 0) ∧ 12 ≤ 1000000 ∧ (cellv ns 0 % 8 == 0) = false ∧ (0 : Int) < 8 ∧ CallOK G 4 83 [.lst (ns.map .int), .int (Int.ofNat 0)] (.val (.int (cellv ns 0))) ∧ True) (by kernel_rfl)
            ⟨ok_refused (d := 0) gw2 (.inl ow), ok_whole_ _, by rw [e], by decide, c2, hw2, ho, c1, hw1, ct, by decide, hw0, by decide, c0, trivial⟩
        | 2, _, e, gw2 =>
          have ow : hasOdd (wholeT (fun j => if j = 2 then .odd v else fnT ns j)) = true := by
            rw [whole_odd]; simp [show hasOdd (.odd v) = true from rfl]
          exact wcall_fin (n := 7) (tp := [.r (.val (.int (cellv ns 0))), .b false, .vs (ths (fnT ns) 12 0), .b false, .r (.val (.int (cellv ns 1))), .r (.val v), .b false, .r (.val (.int (cellv ns 2))), .r (.val (.int (Int.ofNat 2))), .r (.val (tv (wholeT (fun j => if j = 2 then .odd v else fnT ns j))))]) (b_law 4) rfl (b_law_x 4) rfl (by kernel_rfl)
            (P := WCall G 4 111 [tv (wholeT (fun j => if j = 2 then .odd v else fnT ns j))] ∧ CallOK G 4 104 [.lst (ths (fun j => if j = 2 then .odd v else fnT ns j) 12 0)] (.val (tv (wholeT (fun j => if j = 2 then .odd v else fnT ns j)))) ∧ (O.val (.int (cellv ns 2 % 12)) = O.val (.int (Int.ofNat 2))) ∧ (0 : Int) < 12 ∧ CallOK G 4 83 [.lst (ns.map .int), .int (Int.ofNat 2)] (.val (.int (cellv ns 2))) ∧ (cellv ns 0 % 8 == 2) = false ∧ CallOK G 4 90 [.int (cellv ns 1)] (.val v) ∧ CallOK G 4 83 [.lst (ns.map .int), .int (Int.ofNat 1)] (.val (.int (cellv ns 1))) ∧ (cellv ns 0 % 8 == 1) = false ∧ CompT G 4 (fi_law.inner s_law_121_18 "_law_k" 7) [] (e_law_121_18 4).x 7 (rangeL 0 12) (lst0 ns (cellv ns 0 % 8)) (ths (fnT ns) 12 0) ∧ 12 ≤ 1000000 ∧ (cellv ns 0 % 8 == 0) = false ∧ (0 : Int) < 8 ∧ CallOK G 4 83 [.lst (ns.map .int), .int (Int.ofNat 0)] (.val (.int (cellv ns 0))) ∧ True) (by kernel_rfl)
            ⟨ok_refused (d := 0) gw2 (.inl ow), ok_whole_ _, by rw [e], by decide, c2, hw2, ho, c1, hw1, ct, by decide, hw0, by decide, c0, trivial⟩
        | 3, _, e, gw2 =>
          have ow : hasOdd (wholeT (fun j => if j = 3 then .odd v else fnT ns j)) = true := by
            rw [whole_odd]; simp [show hasOdd (.odd v) = true from rfl]
          exact wcall_fin (n := 7) (tp := [.r (.val (.int (cellv ns 0))), .b false, .vs (ths (fnT ns) 12 0), .b false, .r (.val (.int (cellv ns 1))), .r (.val v), .b false, .r (.val (.int (cellv ns 2))), .r (.val (.int (Int.ofNat 3))), .r (.val (tv (wholeT (fun j => if j = 3 then .odd v else fnT ns j))))]) (b_law 4) rfl (b_law_x 4) rfl (by kernel_rfl)
            (P := WCall G 4 111 [tv (wholeT (fun j => if j = 3 then .odd v else fnT ns j))] ∧ CallOK G 4 104 [.lst (ths (fun j => if j = 3 then .odd v else fnT ns j) 12 0)] (.val (tv (wholeT (fun j => if j = 3 then .odd v else fnT ns j)))) ∧ (O.val (.int (cellv ns 2 % 12)) = O.val (.int (Int.ofNat 3))) ∧ (0 : Int) < 12 ∧ CallOK G 4 83 [.lst (ns.map .int), .int (Int.ofNat 2)] (.val (.int (cellv ns 2))) ∧ (cellv ns 0 % 8 == 2) = false ∧ CallOK G 4 90 [.int (cellv ns 1)] (.val v) ∧ CallOK G 4 83 [.lst (ns.map .int), .int (Int.ofNat 1)] (.val (.int (cellv ns 1))) ∧ (cellv ns 0 % 8 == 1) = false ∧ CompT G 4 (fi_law.inner s_law_121_18 "_law_k" 7) [] (e_law_121_18 4).x 7 (rangeL 0 12) (lst0 ns (cellv ns 0 % 8)) (ths (fnT ns) 12 0) ∧ 12 ≤ 1000000 ∧ (cellv ns 0 % 8 == 0) = false ∧ (0 : Int) < 8 ∧ CallOK G 4 83 [.lst (ns.map .int), .int (Int.ofNat 0)] (.val (.int (cellv ns 0))) ∧ True) (by kernel_rfl)
            ⟨ok_refused (d := 0) gw2 (.inl ow), ok_whole_ _, by rw [e], by decide, c2, hw2, ho, c1, hw1, ct, by decide, hw0, by decide, c0, trivial⟩
        | 4, _, e, gw2 =>
          have ow : hasOdd (wholeT (fun j => if j = 4 then .odd v else fnT ns j)) = true := by
            rw [whole_odd]; simp [show hasOdd (.odd v) = true from rfl]
          exact wcall_fin (n := 7) (tp := [.r (.val (.int (cellv ns 0))), .b false, .vs (ths (fnT ns) 12 0), .b false, .r (.val (.int (cellv ns 1))), .r (.val v), .b false, .r (.val (.int (cellv ns 2))), .r (.val (.int (Int.ofNat 4))), .r (.val (tv (wholeT (fun j => if j = 4 then .odd v else fnT ns j))))]) (b_law 4) rfl (b_law_x 4) rfl (by kernel_rfl)
            (P := WCall G 4 111 [tv (wholeT (fun j => if j = 4 then .odd v else fnT ns j))] ∧ CallOK G 4 104 [.lst (ths (fun j => if j = 4 then .odd v else fnT ns j) 12 0)] (.val (tv (wholeT (fun j => if j = 4 then .odd v else fnT ns j)))) ∧ (O.val (.int (cellv ns 2 % 12)) = O.val (.int (Int.ofNat 4))) ∧ (0 : Int) < 12 ∧ CallOK G 4 83 [.lst (ns.map .int), .int (Int.ofNat 2)] (.val (.int (cellv ns 2))) ∧ (cellv ns 0 % 8 == 2) = false ∧ CallOK G 4 90 [.int (cellv ns 1)] (.val v) ∧ CallOK G 4 83 [.lst (ns.map .int), .int (Int.ofNat 1)] (.val (.int (cellv ns 1))) ∧ (cellv ns 0 % 8 == 1) = false ∧ CompT G 4 (fi_law.inner s_law_121_18 "_law_k" 7) [] (e_law_121_18 4).x 7 (rangeL 0 12) (lst0 ns (cellv ns 0 % 8)) (ths (fnT ns) 12 0) ∧ 12 ≤ 1000000 ∧ (cellv ns 0 % 8 == 0) = false ∧ (0 : Int) < 8 ∧ CallOK G 4 83 [.lst (ns.map .int), .int (Int.ofNat 0)] (.val (.int (cellv ns 0))) ∧ True) (by kernel_rfl)
            ⟨ok_refused (d := 0) gw2 (.inl ow), ok_whole_ _, by rw [e], by decide, c2, hw2, ho, c1, hw1, ct, by decide, hw0, by decide, c0, trivial⟩
        | 5, _, e, gw2 =>
          have ow : hasOdd (wholeT (fun j => if j = 5 then .odd v else fnT ns j)) = true := by
            rw [whole_odd]; simp [show hasOdd (.odd v) = true from rfl]
          exact wcall_fin (n := 7) (tp := [.r (.val (.int (cellv ns 0))), .b false, .vs (ths (fnT ns) 12 0), .b false, .r (.val (.int (cellv ns 1))), .r (.val v), .b false, .r (.val (.int (cellv ns 2))), .r (.val (.int (Int.ofNat 5))), .r (.val (tv (wholeT (fun j => if j = 5 then .odd v else fnT ns j))))]) (b_law 4) rfl (b_law_x 4) rfl (by kernel_rfl)
            (P := WCall G 4 111 [tv (wholeT (fun j => if j = 5 then .odd v else fnT ns j))] ∧ CallOK G 4 104 [.lst (ths (fun j => if j = 5 then .odd v else fnT ns j) 12 0)] (.val (tv (wholeT (fun j => if j = 5 then .odd v else fnT ns j)))) ∧ (O.val (.int (cellv ns 2 % 12)) = O.val (.int (Int.ofNat 5))) ∧ (0 : Int) < 12 ∧ CallOK G 4 83 [.lst (ns.map .int), .int (Int.ofNat 2)] (.val (.int (cellv ns 2))) ∧ (cellv ns 0 % 8 == 2) = false ∧ CallOK G 4 90 [.int (cellv ns 1)] (.val v) ∧ CallOK G 4 83 [.lst (ns.map .int), .int (Int.ofNat 1)] (.val (.int (cellv ns 1))) ∧ (cellv ns 0 % 8 == 1) = false ∧ CompT G 4 (fi_law.inner s_law_121_18 "_law_k" 7) [] (e_law_121_18 4).x 7 (rangeL 0 12) (lst0 ns (cellv ns 0 % 8)) (ths (fnT ns) 12 0) ∧ 12 ≤ 1000000 ∧ (cellv ns 0 % 8 == 0) = false ∧ (0 : Int) < 8 ∧ CallOK G 4 83 [.lst (ns.map .int), .int (Int.ofNat 0)] (.val (.int (cellv ns 0))) ∧ True) (by kernel_rfl)
            ⟨ok_refused (d := 0) gw2 (.inl ow), ok_whole_ _, by rw [e], by decide, c2, hw2, ho, c1, hw1, ct, by decide, hw0, by decide, c0, trivial⟩
        | 6, _, e, gw2 =>
          have ow : hasOdd (wholeT (fun j => if j = 6 then .odd v else fnT ns j)) = true := by
            rw [whole_odd]; simp [show hasOdd (.odd v) = true from rfl]
          exact wcall_fin (n := 7) (tp := [.r (.val (.int (cellv ns 0))), .b false, .vs (ths (fnT ns) 12 0), .b false, .r (.val (.int (cellv ns 1))), .r (.val v), .b false, .r (.val (.int (cellv ns 2))), .r (.val (.int (Int.ofNat 6))), .r (.val (tv (wholeT (fun j => if j = 6 then .odd v else fnT ns j))))]) (b_law 4) rfl (b_law_x 4) rfl (by kernel_rfl)
            (P := WCall G 4 111 [tv (wholeT (fun j => if j = 6 then .odd v else fnT ns j))] ∧ CallOK G 4 104 [.lst (ths (fun j => if j = 6 then .odd v else fnT ns j) 12 0)] (.val (tv (wholeT (fun j => if j = 6 then .odd v else fnT ns j)))) ∧ (O.val (.int (cellv ns 2 % 12)) = O.val (.int (Int.ofNat 6))) ∧ (0 : Int) < 12 ∧ CallOK G 4 83 [.lst (ns.map .int), .int (Int.ofNat 2)] (.val (.int (cellv ns 2))) ∧ (cellv ns 0 % 8 == 2) = false ∧ CallOK G 4 90 [.int (cellv ns 1)] (.val v) ∧ CallOK G 4 83 [.lst (ns.map .int), .int (Int.ofNat 1)] (.val (.int (cellv ns 1))) ∧ (cellv ns 0 % 8 == 1) = false ∧ CompT G 4 (fi_law.inner s_law_121_18 "_law_k" 7) [] (e_law_121_18 4).x 7 (rangeL 0 12) (lst0 ns (cellv ns 0 % 8)) (ths (fnT ns) 12 0) ∧ 12 ≤ 1000000 ∧ (cellv ns 0 % 8 == 0) = false ∧ (0 : Int) < 8 ∧ CallOK G 4 83 [.lst (ns.map .int), .int (Int.ofNat 0)] (.val (.int (cellv ns 0))) ∧ True) (by kernel_rfl)
            ⟨ok_refused (d := 0) gw2 (.inl ow), ok_whole_ _, by rw [e], by decide, c2, hw2, ho, c1, hw1, ct, by decide, hw0, by decide, c0, trivial⟩
        | 7, _, e, gw2 =>
          have ow : hasOdd (wholeT (fun j => if j = 7 then .odd v else fnT ns j)) = true := by
            rw [whole_odd]; simp [show hasOdd (.odd v) = true from rfl]
          exact wcall_fin (n := 7) (tp := [.r (.val (.int (cellv ns 0))), .b false, .vs (ths (fnT ns) 12 0), .b false, .r (.val (.int (cellv ns 1))), .r (.val v), .b false, .r (.val (.int (cellv ns 2))), .r (.val (.int (Int.ofNat 7))), .r (.val (tv (wholeT (fun j => if j = 7 then .odd v else fnT ns j))))]) (b_law 4) rfl (b_law_x 4) rfl (by kernel_rfl)
            (P := WCall G 4 111 [tv (wholeT (fun j => if j = 7 then .odd v else fnT ns j))] ∧ CallOK G 4 104 [.lst (ths (fun j => if j = 7 then .odd v else fnT ns j) 12 0)] (.val (tv (wholeT (fun j => if j = 7 then .odd v else fnT ns j)))) ∧ (O.val (.int (cellv ns 2 % 12)) = O.val (.int (Int.ofNat 7))) ∧ (0 : Int) < 12 ∧ CallOK G 4 83 [.lst (ns.map .int), .int (Int.ofNat 2)] (.val (.int (cellv ns 2))) ∧ (cellv ns 0 % 8 == 2) = false ∧ CallOK G 4 90 [.int (cellv ns 1)] (.val v) ∧ CallOK G 4 83 [.lst (ns.map .int), .int (Int.ofNat 1)] (.val (.int (cellv ns 1))) ∧ (cellv ns 0 % 8 == 1) = false ∧ CompT G 4 (fi_law.inner s_law_121_18 "_law_k" 7) [] (e_law_121_18 4).x 7 (rangeL 0 12) (lst0 ns (cellv ns 0 % 8)) (ths (fnT ns) 12 0) ∧ 12 ≤ 1000000 ∧ (cellv ns 0 % 8 == 0) = false ∧ (0 : Int) < 8 ∧ CallOK G 4 83 [.lst (ns.map .int), .int (Int.ofNat 0)] (.val (.int (cellv ns 0))) ∧ True) (by kernel_rfl)
            ⟨ok_refused (d := 0) gw2 (.inl ow), ok_whole_ _, by rw [e], by decide, c2, hw2, ho, c1, hw1, ct, by decide, hw0, by decide, c0, trivial⟩
        | 8, _, e, gw2 =>
          have ow : hasOdd (wholeT (fun j => if j = 8 then .odd v else fnT ns j)) = true := by
            rw [whole_odd]; simp [show hasOdd (.odd v) = true from rfl]
          exact wcall_fin (n := 7) (tp := [.r (.val (.int (cellv ns 0))), .b false, .vs (ths (fnT ns) 12 0), .b false, .r (.val (.int (cellv ns 1))), .r (.val v), .b false, .r (.val (.int (cellv ns 2))), .r (.val (.int (Int.ofNat 8))), .r (.val (tv (wholeT (fun j => if j = 8 then .odd v else fnT ns j))))]) (b_law 4) rfl (b_law_x 4) rfl (by kernel_rfl)
            (P := WCall G 4 111 [tv (wholeT (fun j => if j = 8 then .odd v else fnT ns j))] ∧ CallOK G 4 104 [.lst (ths (fun j => if j = 8 then .odd v else fnT ns j) 12 0)] (.val (tv (wholeT (fun j => if j = 8 then .odd v else fnT ns j)))) ∧ (O.val (.int (cellv ns 2 % 12)) = O.val (.int (Int.ofNat 8))) ∧ (0 : Int) < 12 ∧ CallOK G 4 83 [.lst (ns.map .int), .int (Int.ofNat 2)] (.val (.int (cellv ns 2))) ∧ (cellv ns 0 % 8 == 2) = false ∧ CallOK G 4 90 [.int (cellv ns 1)] (.val v) ∧ CallOK G 4 83 [.lst (ns.map .int), .int (Int.ofNat 1)] (.val (.int (cellv ns 1))) ∧ (cellv ns 0 % 8 == 1) = false ∧ CompT G 4 (fi_law.inner s_law_121_18 "_law_k" 7) [] (e_law_121_18 4).x 7 (rangeL 0 12) (lst0 ns (cellv ns 0 % 8)) (ths (fnT ns) 12 0) ∧ 12 ≤ 1000000 ∧ (cellv ns 0 % 8 == 0) = false ∧ (0 : Int) < 8 ∧ CallOK G 4 83 [.lst (ns.map .int), .int (Int.ofNat 0)] (.val (.int (cellv ns 0))) ∧ True) (by kernel_rfl)
            ⟨ok_refused (d := 0) gw2 (.inl ow), ok_whole_ _, by rw [e], by decide, c2, hw2, ho, c1, hw1, ct, by decide, hw0, by decide, c0, trivial⟩
        | 9, _, e, gw2 =>
          have ow : hasOdd (wholeT (fun j => if j = 9 then .odd v else fnT ns j)) = true := by
            rw [whole_odd]; simp [show hasOdd (.odd v) = true from rfl]
          exact wcall_fin (n := 7) (tp := [.r (.val (.int (cellv ns 0))), .b false, .vs (ths (fnT ns) 12 0), .b false, .r (.val (.int (cellv ns 1))), .r (.val v), .b false, .r (.val (.int (cellv ns 2))), .r (.val (.int (Int.ofNat 9))), .r (.val (tv (wholeT (fun j => if j = 9 then .odd v else fnT ns j))))]) (b_law 4) rfl (b_law_x 4) rfl (by kernel_rfl)
            (P := WCall G 4 111 [tv (wholeT (fun j => if j = 9 then .odd v else fnT ns j))] ∧ CallOK G 4 104 [.lst (ths (fun j => if j = 9 then .odd v else fnT ns j) 12 0)] (.val (tv (wholeT (fun j => if j = 9 then .odd v else fnT ns j)))) ∧ (O.val (.int (cellv ns 2 % 12)) = O.val (.int (Int.ofNat 9))) ∧ (0 : Int) < 12 ∧ CallOK G 4 83 [.lst (ns.map .int), .int (Int.ofNat 2)] (.val (.int (cellv ns 2))) ∧ (cellv ns 0 % 8 == 2) = false ∧ CallOK G 4 90 [.int (cellv ns 1)] (.val v) ∧ CallOK G 4 83 [.lst (ns.map .int), .int (Int.ofNat 1)] (.val (.int (cellv ns 1))) ∧ (cellv ns 0 % 8 == 1) = false ∧ CompT G 4 (fi_law.inner s_law_121_18 "_law_k" 7) [] (e_law_121_18 4).x 7 (rangeL 0 12) (lst0 ns (cellv ns 0 % 8)) (ths (fnT ns) 12 0) ∧ 12 ≤ 1000000 ∧ (cellv ns 0 % 8 == 0) = false ∧ (0 : Int) < 8 ∧ CallOK G 4 83 [.lst (ns.map .int), .int (Int.ofNat 0)] (.val (.int (cellv ns 0))) ∧ True) (by kernel_rfl)
            ⟨ok_refused (d := 0) gw2 (.inl ow), ok_whole_ _, by rw [e], by decide, c2, hw2, ho, c1, hw1, ct, by decide, hw0, by decide, c0, trivial⟩
        | 10, _, e, gw2 =>
          have ow : hasOdd (wholeT (fun j => if j = 10 then .odd v else fnT ns j)) = true := by
            rw [whole_odd]; simp [show hasOdd (.odd v) = true from rfl]
          exact wcall_fin (n := 7) (tp := [.r (.val (.int (cellv ns 0))), .b false, .vs (ths (fnT ns) 12 0), .b false, .r (.val (.int (cellv ns 1))), .r (.val v), .b false, .r (.val (.int (cellv ns 2))), .r (.val (.int (Int.ofNat 10))), .r (.val (tv (wholeT (fun j => if j = 10 then .odd v else fnT ns j))))]) (b_law 4) rfl (b_law_x 4) rfl (by kernel_rfl)
            (P := WCall G 4 111 [tv (wholeT (fun j => if j = 10 then .odd v else fnT ns j))] ∧ CallOK G 4 104 [.lst (ths (fun j => if j = 10 then .odd v else fnT ns j) 12 0)] (.val (tv (wholeT (fun j => if j = 10 then .odd v else fnT ns j)))) ∧ (O.val (.int (cellv ns 2 % 12)) = O.val (.int (Int.ofNat 10))) ∧ (0 : Int) < 12 ∧ CallOK G 4 83 [.lst (ns.map .int), .int (Int.ofNat 2)] (.val (.int (cellv ns 2))) ∧ (cellv ns 0 % 8 == 2) = false ∧ CallOK G 4 90 [.int (cellv ns 1)] (.val v) ∧ CallOK G 4 83 [.lst (ns.map .int), .int (Int.ofNat 1)] (.val (.int (cellv ns 1))) ∧ (cellv ns 0 % 8 == 1) = false ∧ CompT G 4 (fi_law.inner s_law_121_18 "_law_k" 7) [] (e_law_121_18 4).x 7 (rangeL 0 12) (lst0 ns (cellv ns 0 % 8)) (ths (fnT ns) 12 0) ∧ 12 ≤ 1000000 ∧ (cellv ns 0 % 8 == 0) = false ∧ (0 : Int) < 8 ∧ CallOK G 4 83 [.lst (ns.map .int), .int (Int.ofNat 0)] (.val (.int (cellv ns 0))) ∧ True) (by kernel_rfl)
            ⟨ok_refused (d := 0) gw2 (.inl ow), ok_whole_ _, by rw [e], by decide, c2, hw2, ho, c1, hw1, ct, by decide, hw0, by decide, c0, trivial⟩
        | 11, _, e, gw2 =>
          have ow : hasOdd (wholeT (fun j => if j = 11 then .odd v else fnT ns j)) = true := by
            rw [whole_odd]; simp [show hasOdd (.odd v) = true from rfl]
          exact wcall_fin (n := 7) (tp := [.r (.val (.int (cellv ns 0))), .b false, .vs (ths (fnT ns) 12 0), .b false, .r (.val (.int (cellv ns 1))), .r (.val v), .b false, .r (.val (.int (cellv ns 2))), .r (.val (.int (Int.ofNat 11))), .r (.val (tv (wholeT (fun j => if j = 11 then .odd v else fnT ns j))))]) (b_law 4) rfl (b_law_x 4) rfl (by kernel_rfl)
            (P := WCall G 4 111 [tv (wholeT (fun j => if j = 11 then .odd v else fnT ns j))] ∧ CallOK G 4 104 [.lst (ths (fun j => if j = 11 then .odd v else fnT ns j) 12 0)] (.val (tv (wholeT (fun j => if j = 11 then .odd v else fnT ns j)))) ∧ (O.val (.int (cellv ns 2 % 12)) = O.val (.int (Int.ofNat 11))) ∧ (0 : Int) < 12 ∧ CallOK G 4 83 [.lst (ns.map .int), .int (Int.ofNat 2)] (.val (.int (cellv ns 2))) ∧ (cellv ns 0 % 8 == 2) = false ∧ CallOK G 4 90 [.int (cellv ns 1)] (.val v) ∧ CallOK G 4 83 [.lst (ns.map .int), .int (Int.ofNat 1)] (.val (.int (cellv ns 1))) ∧ (cellv ns 0 % 8 == 1) = false ∧ CompT G 4 (fi_law.inner s_law_121_18 "_law_k" 7) [] (e_law_121_18 4).x 7 (rangeL 0 12) (lst0 ns (cellv ns 0 % 8)) (ths (fnT ns) 12 0) ∧ 12 ≤ 1000000 ∧ (cellv ns 0 % 8 == 0) = false ∧ (0 : Int) < 8 ∧ CallOK G 4 83 [.lst (ns.map .int), .int (Int.ofNat 0)] (.val (.int (cellv ns 0))) ∧ True) (by kernel_rfl)
            ⟨ok_refused (d := 0) gw2 (.inl ow), ok_whole_ _, by rw [e], by decide, c2, hw2, ho, c1, hw1, ct, by decide, hw0, by decide, c0, trivial⟩
        | k + 12, hk, _, _ => omega
end Mine.L02
end

section
open PySem PySem.W PyProof.Rows
set_option Elab.async false
namespace Mine
set_option maxRecDepth 100000 in
set_option maxHeartbeats 8000000 in
open_top hd for PySem.Challenge.rw_uf010023_02
end Mine
end

section
open PySem PySem.W
set_option autoImplicit false
set_option maxRecDepth 100000
namespace Mine.L02
theorem c_top (P : Params) : isTop (Mine.hd.heap_39 P) = true := by kernel_rfl
theorem c_fn (P : Params) : (G.fn.all fun x => nsFind (topOf (Mine.hd.heap_39 P)) x.1 == some (.ref x.2) && keepIn (Mine.hd.heap_39 P) (.ref x.2)) = true := by kernel_rfl
theorem c_bn (P : Params) : (G.bn.all fun x => nsFind (topOf (Mine.hd.heap_39 P)) x == none && x != "__name__") = true := by kernel_rfl
theorem c_isi (P : Params) : (([.none, .bool, .int, .str, .tup, .list] : List Kd).all fun k => G.ty.all fun t => kitOne (Mine.hd.heap_39 P) k.v (.type t.n) == some (isiK k t)) = true := by kernel_rfl
theorem c_fd (P : Params) (a : Addr) (f : FD) (h : (a, f) ∈ G.fd) : FnAt (Mine.hd.heap_39 P) a f := by
  have h : (a, f) ∈ [(48, fd_is_name), (55, fd_is_whole), (62, fd_is_node), (69, fd_parts), (76, fd_need_tree), (83, fd__law_cell_at), (90, fd__law_odd), (97, fd__law_fine), (104, fd__law_whole), (111, fd__law_refused), (118, fd__law_deep), (125, fd__law_two), (130, fd__law_wide), (137, fd__law_same), (142, fd_law)] := h
  simp only [List.mem_cons, Prod.mk.injEq, List.not_mem_nil, or_false] at h
  rcases h with ⟨rfl, rfl⟩ | ⟨rfl, rfl⟩ | ⟨rfl, rfl⟩ | ⟨rfl, rfl⟩ | ⟨rfl, rfl⟩ | ⟨rfl, rfl⟩ | ⟨rfl, rfl⟩ | ⟨rfl, rfl⟩ | ⟨rfl, rfl⟩ | ⟨rfl, rfl⟩ | ⟨rfl, rfl⟩ | ⟨rfl, rfl⟩ | ⟨rfl, rfl⟩ | ⟨rfl, rfl⟩ | ⟨rfl, rfl⟩ <;> exact ⟨by kernel_rfl, by kernel_rfl⟩
theorem c_chk (P : Params) : GChk G (Mine.hd.heap_39 P) := ⟨c_top P, c_fn P, c_bn P, c_isi P, c_fd P⟩
theorem c_words (P : Params) : tupAt (Mine.hd.heap_39 P) 40 words = true := by kernel_rfl
theorem c_letters (P : Params) : strAt (Mine.hd.heap_39 P) "LETTERS" letters = true := by kernel_rfl
theorem c_lens (P : Params) : dicAt (Mine.hd.heap_39 P) 41 lens = true := by kernel_rfl
theorem c_hash (P : Params) : hashesAt (Mine.hd.heap_39 P) 41 = lens.map (fun kv => PyData.keyHash P ⟨kv.1.toArray⟩) := by kernel_rfl
theorem c_most (P : Params) : intAt (Mine.hd.heap_39 P) "MOST_NODES" 400 = true := by kernel_rfl
theorem c_great (P : Params) : intAt (Mine.hd.heap_39 P) "GREAT" great = true := by kernel_rfl
theorem c_no (P : Params) : clsAt (Mine.hd.heap_39 P) cN (.ref cM :: mroV) "ValueError.__new__" = true := by kernel_rfl
theorem c_mi (P : Params) : clsAt (Mine.hd.heap_39 P) cM mroV "ValueError.__new__" = true := by kernel_rfl
theorem c_n1 (P : Params) : nsFind (topOf (Mine.hd.heap_39 P)) "WORDS" = some (.ref 40) := by kernel_rfl
theorem c_n2 (P : Params) : nsFind (topOf (Mine.hd.heap_39 P)) "LENGTHS" = some (.ref 41) := by kernel_rfl
theorem c_n3 (P : Params) : nsFind (topOf (Mine.hd.heap_39 P)) "NoTree" = some (.ref cN) := by kernel_rfl
theorem c_n4 (P : Params) : nsFind (topOf (Mine.hd.heap_39 P)) "MillError" = some (.ref cM) := by kernel_rfl
theorem c_k1 (P : Params) : kitOne (Mine.hd.heap_39 P) (.ref cN) (.ref cM) = some true := by kernel_rfl
theorem c_k2 (P : Params) : kitOne (Mine.hd.heap_39 P) (.ref cN) (.type "ValueError") = some true := by kernel_rfl
theorem c_mo (P : Params) (C : Cx) (hK : C.K = Mine.hd.heap_39 P) (hP : C.w.params = P) (X : C.K.In C.h) (hm : ∀ x, C.mg x = nsFind (topOf (Mine.hd.heap_39 P)) x) : G.mo C := by
  rw [hK] at X
  subst hP
  exact More.mk (gval_tup X hm (c_n1 _) (c_words _)) (gval_str hm (c_letters _) z_abcdefghijklmnopqrstuvwxyz_k) (gdic_ok X hm (c_n2 _) (c_lens _) (c_hash _) (by decide +kernel)) (gval_int hm (c_most _)) (gval_int hm (c_great _))
    ⟨ex_ok X hm (c_n3 _) (c_no _) (c_mi _), (hm _).trans (c_n4 _), by rw [hK]; exact c_k1 _, by rw [hK]; exact c_k2 _⟩
theorem fin : PySem.Challenge.rw_uf010023_02.Holds :=
  Mine.hd (joinW G 142 5 rfl rfl (by kernel_rfl) (by decide) c_chk c_mo law_ok)
end Mine.L02
end
theorem PySem.Challenge.cw_uf010023_02_holds : PySem.Challenge.rw_uf010023_02.Holds :=
  Mine.L02.fin
